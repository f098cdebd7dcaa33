-- Written by a program of this session (wip/tools/myprint.py). Not trusted: Lean checks it.
import Derived.Test.YtadddkdfbmbagaaPAx0
import Derived.Test.YtadddkdfbmbagaaPAx1
import Derived.Test.YtadddkdfbmbagaaPAx2
import Derived.Test.YtadddkdfbmbagaaPAx5
import Derived.Test.YtadddkdfbmbagaaPAx6
import Derived.Test.YtadddkdfbmbagaaPAx7
namespace Go.Proofs.Ytadddkdfbmbagaa.PA
open Go.RowKit Go.Proofs.YtadddkdfbmbagaaW.PrintWords Go.Proofs.YtadddkdfbmbagaaW.PrintLast Go.Proofs.YtadddkdfbmbagaaW.PrintMore
attribute [local go_sem] max2_int min2_int max_two min_two max_three min_three max_four min_four   -- for this text's walks alone
set_option linter.unusedVariables false
set_option linter.unusedSimpArgs false

/-! ### impl_Hand_distance: function 28 -/
def impl_Hand_distance.f (k : Nat) (a0_0 : Int) (a0_1 : Int) (a0_2 : Int) (a0_3 : Int) (a0_4 : Int) (a0_5 : Bool) (a0_6 : Int) (a0_7 : Int) (a0_8 : Int) (a0_9 : Int) (a0_10 : Bool) (a0_11 : ByteArray) (a0_12 : Int) (a1_0 : Int) (a1_1 : Int) (a1_2 : Int) (a1_3 : Int) (a1_4 : Int) (a1_5 : Bool) (a1_6 : Int) (a1_7 : Int) (a1_8 : Int) (a1_9 : Int) (a1_10 : Bool) (a1_11 : ByteArray) (a1_12 : Int) : Option (Int) := (impl_Shape_distance.f k a0_0 a0_1 a0_2 a0_3 a0_4 a0_5 a1_0 a1_1 a1_2 a1_3 a1_4 a1_5).bind fun t333 => ((impl_Place_distance.f a0_8 a0_9 a0_10 a1_8 a1_9 a1_10).bind fun t334 => ((impl_Move_all.f a0_11 a0_12).bind fun t335 => ((impl_Move_all.f a1_11 a1_12).bind fun t336 => ((impl_stepDistance.f k t335 t336).bind fun t337 => (if a0_6 = a1_6 then (if a0_7 = a1_7 then (some (wrap64 ((wrap64 (t333 + t334)) + t337))) else (some (wrap64 ((wrap64 ((wrap64 (t333 + t334)) + t337)) + 1)))) else (if a0_7 = a1_7 then (some (wrap64 ((wrap64 ((wrap64 (t333 + t334)) + t337)) + 1))) else (some (wrap64 ((wrap64 ((wrap64 ((wrap64 (t333 + t334)) + t337)) + 1)) + 1)))))))))
theorem impl_Hand_distance.mono : ∀ a0 a1 a2 a3 a4 a5 a6 a7 a8 a9 a10 a11 a12 a13 a14 a15 a16 a17 a18 a19 a20 a21 a22 a23 a24 a25 k, LeO (impl_Hand_distance.f k a0 a1 a2 a3 a4 a5 a6 a7 a8 a9 a10 a11 a12 a13 a14 a15 a16 a17 a18 a19 a20 a21 a22 a23 a24 a25) (impl_Hand_distance.f (k + 1) a0 a1 a2 a3 a4 a5 a6 a7 a8 a9 a10 a11 a12 a13 a14 a15 a16 a17 a18 a19 a20 a21 a22 a23 a24 a25) := by
 intro a0 a1 a2 a3 a4 a5 a6 a7 a8 a9 a10 a11 a12 a13 a14 a15 a16 a17 a18 a19 a20 a21 a22 a23 a24 a25 k
 unfold impl_Hand_distance.f
 repeat' first
   | (with_reducible exact impl_Shape_distance.mono _ _ _ _ _ _ _ _ _ _ _ _ _)
   | (with_reducible exact impl_stepDistance.mono _ _ _)
   | (with_reducible exact LeO.refl _)
   | (with_reducible exact LeO.none _)
   | (with_reducible refine LeO.ite ?_ ?_)
   | (with_reducible refine LeO.bind ?_ (fun _ => ?_))
   | exact LeO.none _
   | refine LeO.ite ?_ ?_
   | refine LeO.bind ?_ (fun _ => ?_)
def impl_Hand_distance.T1 : Bool × List (List Nat × List Nat) := (true, [([], []), ([0], [0]), ([], []), ([2], [2]), ([1, 3], [1, 3]), ([], []), ([5], [5]), ([], []), ([7], [7]), ([6, 8, 4], [6, 8]), ([4, 9], [4, 9]), ([], []), ([11], [11]), ([12, 9], [12]), ([], []), ([14], [14]), ([15, 13], [15]), ([13, 16, 16], [13, 16]), ([10, 17], [10, 17]), ([18, 17, 0, 1, 2, 3, 4, 5, 6, 7, 8, 9, 10, 11, 12, 13, 14, 15, 16, 17, 18], [18])])
def impl_Hand_distance.B1 : List Nat := [0, 1, 0, 4, 15, 0, 32, 0, 128, 511, 1023, 0, 2048, 7167, 0, 16384, 64511, 130047, 262143, 524287]
theorem impl_Hand_distance.tab1 : rtab .any (opsOf Try.f28 1) = impl_Hand_distance.T1 := by kernel_rfl
theorem impl_Hand_distance.bits1 : waitsOk impl_Hand_distance.T1.2 impl_Hand_distance.B1 = true := by kernel_rfl
set_option maxHeartbeats 8000000 in
set_option maxRecDepth 100000 in
theorem impl_Hand_distance.calls (k : Nat) (a0_0 : Int) (a0_1 : Int) (a0_2 : Int) (a0_3 : Int) (a0_4 : Int) (a0_5 : Bool) (a0_6 : Int) (a0_7 : Int) (a0_8 : Int) (a0_9 : Int) (a0_10 : Bool) (a0_11 : ByteArray) (a0_12 : Int) (a1_0 : Int) (a1_1 : Int) (a1_2 : Int) (a1_3 : Int) (a1_4 : Int) (a1_5 : Bool) (a1_6 : Int) (a1_7 : Int) (a1_8 : Int) (a1_9 : Int) (a1_10 : Bool) (a1_11 : ByteArray) (a1_12 : Int) (r : Int) (w : World) (h : impl_Hand_distance.f k a0_0 a0_1 a0_2 a0_3 a0_4 a0_5 a0_6 a0_7 a0_8 a0_9 a0_10 a0_11 a0_12 a1_0 a1_1 a1_2 a1_3 a1_4 a1_5 a1_6 a1_7 a1_8 a1_9 a1_10 a1_11 a1_12 = some r) :
  Calls Try.prog 28 #[.agg #[.int .i64 a0_0, .int .i64 a0_1, .int .i64 a0_2, .int .i64 a0_3, .int .i64 a0_4, .bool a0_5, .int .i64 a0_6, .int .i64 a0_7, .int .i64 a0_8, .int .i64 a0_9, .bool a0_10, .string a0_11, .int .i64 a0_12], .agg #[.int .i64 a1_0, .int .i64 a1_1, .int .i64 a1_2, .int .i64 a1_3, .int .i64 a1_4, .bool a1_5, .int .i64 a1_6, .int .i64 a1_7, .int .i64 a1_8, .int .i64 a1_9, .bool a1_10, .string a1_11, .int .i64 a1_12]] w fun e w' => e = .returned (.int .i64 r) ∧ Below w.heap.size w w' := by
 have hu47 := Try.underlying47
 have hu43 := Try.underlying43
 have hu45 := Try.underlying45
 have hu27 := Try.underlying27
 have HB := Aside0.mk (Below.refl w.heap.size w)
 have H : ((impl_Shape_distance.f k a0_0 a0_1 a0_2 a0_3 a0_4 a0_5 a1_0 a1_1 a1_2 a1_3 a1_4 a1_5).bind fun t333 => ((impl_Place_distance.f a0_8 a0_9 a0_10 a1_8 a1_9 a1_10).bind fun t334 => ((impl_Move_all.f a0_11 a0_12).bind fun t335 => ((impl_Move_all.f a1_11 a1_12).bind fun t336 => ((impl_stepDistance.f k t335 t336).bind fun t337 => (if a0_6 = a1_6 then (if a0_7 = a1_7 then (some (wrap64 ((wrap64 (t333 + t334)) + t337))) else (some (wrap64 ((wrap64 ((wrap64 (t333 + t334)) + t337)) + 1)))) else (if a0_7 = a1_7 then (some (wrap64 ((wrap64 ((wrap64 (t333 + t334)) + t337)) + 1))) else (some (wrap64 ((wrap64 ((wrap64 ((wrap64 (t333 + t334)) + t337)) + 1)) + 1)))))))))) = some r := h
 clear h
 replace H := Option.bind_eq_some_iff.mp H
 obtain ⟨t333, A30, H⟩ := H
 try dsimp only at H
 have A3 := Aside0.mk A30
 clear A30
 replace H := Option.bind_eq_some_iff.mp H
 obtain ⟨t334, A40, H⟩ := H
 try dsimp only at H
 have A4 := Aside0.mk A40
 clear A40
 replace H := Option.bind_eq_some_iff.mp H
 obtain ⟨t335, A50, H⟩ := H
 try dsimp only at H
 have A5 := Aside0.mk A50
 clear A50
 replace H := Option.bind_eq_some_iff.mp H
 obtain ⟨t336, A60, H⟩ := H
 try dsimp only at H
 have A6 := Aside0.mk A60
 clear A60
 replace H := Option.bind_eq_some_iff.mp H
 obtain ⟨t337, A70, H⟩ := H
 try dsimp only at H
 have A7 := Aside0.mk A70
 clear A70
 by_cases c8 : a0_6 = a1_6
 ·rw [if_pos c8] at H
  have c8b0 : (a0_6 == a1_6) = true := beq_iff_eq.mpr c8
  have c8b1 : (a0_6 != a1_6) = false := bne_eq_false_iff_eq.mpr c8
  clear c8
  by_cases c9 : a0_7 = a1_7
  ·rw [if_pos c9] at H
   have c9b0 : (a0_7 == a1_7) = true := beq_iff_eq.mpr c9
   have c9b1 : (a0_7 != a1_7) = false := bne_eq_false_iff_eq.mpr c9
   clear c9
   obtain rfl := Option.some.inj H
   go_enter Try.func28, Try.ntmps28
   try go_wp2_with (first | ((with_reducible refine gate_dst (N := 2) rfl ?_); refine box_event ?hg (N := 2) ?hd (cs := #[.int .i64 a0_0, .int .i64 a0_1, .int .i64 a0_2, .int .i64 a0_3, .int .i64 a0_4, .bool a0_5, .int .i64 a0_6, .int .i64 a0_7, .int .i64 a0_8, .int .i64 a0_9, .bool a0_10, .string a0_11, .int .i64 a0_12]) (t := 47) ?hr ?_; (case hd => rfl); (case hg => rfl); (case hr => first | (go_simp; done) | (go_simp; rfl)); intro gb331 hg w10 hbox hb; have n0_ := Aside0.mk (bt_ HB hb); have n1_ := Aside0.mk (hbox); have n2_ := gz_ hg HB; have n3_ := gz_ hg HB; clear HB; have HB := n0_; have BK331 := n1_; have GW331 := n2_; have GE331 := n3_; clear n0_ n1_ n2_ n3_; clear hb hbox hg) | ((with_reducible refine gate_dst (N := 3) rfl ?_); refine box_event ?hg (N := 3) ?hd (cs := #[.int .i64 a1_0, .int .i64 a1_1, .int .i64 a1_2, .int .i64 a1_3, .int .i64 a1_4, .bool a1_5, .int .i64 a1_6, .int .i64 a1_7, .int .i64 a1_8, .int .i64 a1_9, .bool a1_10, .string a1_11, .int .i64 a1_12]) (t := 47) ?hr ?_; (case hd => rfl); (case hg => rfl); (case hr => first | (go_simp; done) | (go_simp; rfl)); intro gb332 hg w11 hbox hb; have n0_ := Aside0.mk (lb_ BK331 hb); have n1_ := Aside0.mk (below_step (bb1_ HB GE331) hb); have n2_ := Aside0.mk (hbox); have n3_ := gy_ hg (bb1_ HB GE331); have n4_ := gy_ hg (bb1_ HB GE331); have n5_ := nl_ hg BK331; have n6_ := ng_ hg BK331; clear BK331; clear HB; have BK331 := n0_; have HB := n1_; have BK332 := n2_; have GW332 := n3_; have GE332 := n4_; have NB331_332 := n5_; have NB332_331 := n6_; clear n0_ n1_ n2_ n3_ n4_ n5_ n6_; clear hb hbox hg))
   have n0_ := Aside0.mk (blk_drew BK331.out)
   have n1_ := Aside0.mk (blk_drew BK332.out)
   have n2_ := Aside0.mk (below_drew1 HB.out)
   clear BK331
   clear BK332
   clear HB
   have BK331 := n0_
   have BK332 := n1_
   have HB := n2_
   clear n0_ n1_ n2_
   refine start_ (n := 20) (S := fun w' => w'.cell? ⟨gb331, 0, none⟩ = some (.int .i64 a0_0) ∧ w'.cell? ⟨gb331, 1, none⟩ = some (.int .i64 a0_1) ∧ w'.cell? ⟨gb331, 2, none⟩ = some (.int .i64 a0_2) ∧ w'.cell? ⟨gb331, 3, none⟩ = some (.int .i64 a0_3) ∧ w'.cell? ⟨gb331, 4, none⟩ = some (.int .i64 a0_4) ∧ w'.cell? ⟨gb331, 5, none⟩ = some (.bool a0_5) ∧ w'.cell? ⟨gb331, 6, none⟩ = some (.int .i64 a0_6) ∧ w'.cell? ⟨gb331, 7, none⟩ = some (.int .i64 a0_7) ∧ w'.cell? ⟨gb331, 8, none⟩ = some (.int .i64 a0_8) ∧ w'.cell? ⟨gb331, 9, none⟩ = some (.int .i64 a0_9) ∧ w'.cell? ⟨gb331, 10, none⟩ = some (.bool a0_10) ∧ w'.cell? ⟨gb331, 11, none⟩ = some (.string a0_11) ∧ w'.cell? ⟨gb331, 12, none⟩ = some (.int .i64 a0_12) ∧ w'.cell? ⟨gb332, 0, none⟩ = some (.int .i64 a1_0) ∧ w'.cell? ⟨gb332, 1, none⟩ = some (.int .i64 a1_1) ∧ w'.cell? ⟨gb332, 2, none⟩ = some (.int .i64 a1_2) ∧ w'.cell? ⟨gb332, 3, none⟩ = some (.int .i64 a1_3) ∧ w'.cell? ⟨gb332, 4, none⟩ = some (.int .i64 a1_4) ∧ w'.cell? ⟨gb332, 5, none⟩ = some (.bool a1_5) ∧ w'.cell? ⟨gb332, 6, none⟩ = some (.int .i64 a1_6) ∧ w'.cell? ⟨gb332, 7, none⟩ = some (.int .i64 a1_7) ∧ w'.cell? ⟨gb332, 8, none⟩ = some (.int .i64 a1_8) ∧ w'.cell? ⟨gb332, 9, none⟩ = some (.int .i64 a1_9) ∧ w'.cell? ⟨gb332, 10, none⟩ = some (.bool a1_10) ∧ w'.cell? ⟨gb332, 11, none⟩ = some (.string a1_11) ∧ w'.cell? ⟨gb332, 12, none⟩ = some (.int .i64 a1_12)) (ds := []) #[false, false, false, false, false, false, false, false, false, false, false, false, false, false, false, false, false, false, false, false] (by kernel_rfl) rfl rfl ⟨(blk_cell BK331.out 0).trans rfl, (blk_cell BK331.out 1).trans rfl, (blk_cell BK331.out 2).trans rfl, (blk_cell BK331.out 3).trans rfl, (blk_cell BK331.out 4).trans rfl, (blk_cell BK331.out 5).trans rfl, (blk_cell BK331.out 6).trans rfl, (blk_cell BK331.out 7).trans rfl, (blk_cell BK331.out 8).trans rfl, (blk_cell BK331.out 9).trans rfl, (blk_cell BK331.out 10).trans rfl, (blk_cell BK331.out 11).trans rfl, (blk_cell BK331.out 12).trans rfl, (blk_cell BK332.out 0).trans rfl, (blk_cell BK332.out 1).trans rfl, (blk_cell BK332.out 2).trans rfl, (blk_cell BK332.out 3).trans rfl, (blk_cell BK332.out 4).trans rfl, (blk_cell BK332.out 5).trans rfl, (blk_cell BK332.out 6).trans rfl, (blk_cell BK332.out 7).trans rfl, (blk_cell BK332.out 8).trans rfl, (blk_cell BK332.out 9).trans rfl, (blk_cell BK332.out 10).trans rfl, (blk_cell BK332.out 11).trans rfl, (blk_cell BK332.out 12).trans rfl⟩ (fun hHeld => ?_); refine with_tabW impl_Hand_distance.tab1 impl_Hand_distance.bits1 (fun HT_ HW_ => ?_)
   generalize w11.drew = w12 at BK331 BK332 HB hHeld ⊢
   refine pu_ (i := 0) (N := some 6) (v := ?_) (a' := ?_) #[true, false, false, false, false, false, false, false, false, false, false, false, false, false, false, false, false, false, false, false] rfl rfl (Or.inl ⟨by rfl, ?_⟩) ?_ ?_
   rotate_left
   ·intro w'
    go_simp
    with_reducible rfl
   rotate_left
   ·simp only [Act.put, sA_, sB_, sC_, i64_w, i32_w]
    rfl
   refine pu_ (i := 2) (N := some 8) (v := ?_) (a' := ?_) #[true, false, true, false, false, false, false, false, false, false, false, false, false, false, false, false, false, false, false, false] rfl rfl (Or.inl ⟨by rfl, ?_⟩) ?_ ?_
   rotate_left
   ·intro w'
    go_simp
    with_reducible rfl
   rotate_left
   ·simp only [Act.put, sA_, sB_, sC_, i64_w, i32_w]
    rfl
   refine pu_ (i := 5) (N := some 11) (v := ?_) (a' := ?_) #[true, false, true, false, false, true, false, false, false, false, false, false, false, false, false, false, false, false, false, false] rfl rfl (Or.inl ⟨by rfl, ?_⟩) ?_ ?_
   rotate_left
   ·intro w'
    go_simp
    with_reducible rfl
   rotate_left
   ·simp only [Act.put, sA_, sB_, sC_, i64_w, i32_w]
    rfl
   refine pu_ (i := 7) (N := some 13) (v := ?_) (a' := ?_) #[true, false, true, false, false, true, false, true, false, false, false, false, false, false, false, false, false, false, false, false] rfl rfl (Or.inl ⟨by rfl, ?_⟩) ?_ ?_
   rotate_left
   ·intro w'
    go_simp
    with_reducible rfl
   rotate_left
   ·simp only [Act.put, sA_, sB_, sC_, i64_w, i32_w]
    rfl
   refine pu_ (i := 11) (N := some 17) (v := ?_) (a' := ?_) #[true, false, true, false, false, true, false, true, false, false, false, true, false, false, false, false, false, false, false, false] rfl rfl (Or.inl ⟨by rfl, ?_⟩) ?_ ?_
   rotate_left
   ·intro w'
    go_simp
    with_reducible rfl
   rotate_left
   ·simp only [Act.put, sA_, sB_, sC_, i64_w, i32_w]
    rfl
   refine pu_ (i := 14) (N := some 20) (v := ?_) (a' := ?_) #[true, false, true, false, false, true, false, true, false, false, false, true, false, false, true, false, false, false, false, false] rfl rfl (Or.inl ⟨by rfl, ?_⟩) ?_ ?_
   rotate_left
   ·intro w'
    go_simp
    with_reducible rfl
   rotate_left
   ·simp only [Act.put, sA_, sB_, sC_, i64_w, i32_w]
    rfl
   refine take_ (i := 1) (N := some 7) (v := ?_) (a' := ?_) #[true, true, true, false, false, true, false, true, false, false, false, true, false, false, true, false, false, false, false, false] rfl rfl (take_ofW HT_.out HW_.out (by kernel_rfl)) (fun _ _ _ h => h) (Or.inl ⟨by rfl, ?_⟩) hHeld ?_ ?_
   rotate_left
   ·rintro w' ⟨s0, s1, s2, s3, s4, s5, s6, s7, s8, s9, s10, s11, s12, s13, s14, s15, s16, s17, s18, s19, s20, s21, s22, s23, s24, s25⟩
    go_simp
    with_reducible rfl
   rotate_left
   ·simp only [Act.put, sA_, sB_, sC_, i64_w, i32_w]
    rfl
   refine take_ (i := 3) (N := some 9) (v := ?_) (a' := ?_) #[true, true, true, true, false, true, false, true, false, false, false, true, false, false, true, false, false, false, false, false] rfl rfl (take_ofW HT_.out HW_.out (by kernel_rfl)) (fun _ _ _ h => h) (Or.inl ⟨by rfl, ?_⟩) hHeld ?_ ?_
   rotate_left
   ·rintro w' ⟨s0, s1, s2, s3, s4, s5, s6, s7, s8, s9, s10, s11, s12, s13, s14, s15, s16, s17, s18, s19, s20, s21, s22, s23, s24, s25⟩
    go_simp
    with_reducible rfl
   rotate_left
   ·simp only [Act.put, sA_, sB_, sC_, i64_w, i32_w]
    rfl
   refine take_ (i := 6) (N := some 12) (v := ?_) (a' := ?_) #[true, true, true, true, false, true, true, true, false, false, false, true, false, false, true, false, false, false, false, false] rfl rfl (take_ofW HT_.out HW_.out (by kernel_rfl)) (fun _ _ _ h => h) (Or.inl ⟨by rfl, ?_⟩) hHeld ?_ ?_
   rotate_left
   ·rintro w' ⟨s0, s1, s2, s3, s4, s5, s6, s7, s8, s9, s10, s11, s12, s13, s14, s15, s16, s17, s18, s19, s20, s21, s22, s23, s24, s25⟩
    go_simp
    with_reducible rfl
   rotate_left
   ·simp only [Act.put, sA_, sB_, sC_, i64_w, i32_w]
    rfl
   refine take_ (i := 8) (N := some 14) (v := ?_) (a' := ?_) #[true, true, true, true, false, true, true, true, true, false, false, true, false, false, true, false, false, false, false, false] rfl rfl (take_ofW HT_.out HW_.out (by kernel_rfl)) (fun _ _ _ h => h) (Or.inl ⟨by rfl, ?_⟩) hHeld ?_ ?_
   rotate_left
   ·rintro w' ⟨s0, s1, s2, s3, s4, s5, s6, s7, s8, s9, s10, s11, s12, s13, s14, s15, s16, s17, s18, s19, s20, s21, s22, s23, s24, s25⟩
    go_simp
    with_reducible rfl
   rotate_left
   ·simp only [Act.put, sA_, sB_, sC_, i64_w, i32_w]
    rfl
   refine take_ (i := 12) (N := some 18) (v := ?_) (a' := ?_) #[true, true, true, true, false, true, true, true, true, false, false, true, true, false, true, false, false, false, false, false] rfl rfl (take_ofW HT_.out HW_.out (by kernel_rfl)) (fun _ _ _ h => h) (Or.inl ⟨by rfl, ?_⟩) hHeld ?_ ?_
   rotate_left
   ·rintro w' ⟨s0, s1, s2, s3, s4, s5, s6, s7, s8, s9, s10, s11, s12, s13, s14, s15, s16, s17, s18, s19, s20, s21, s22, s23, s24, s25⟩
    go_simp
    with_reducible rfl
   rotate_left
   ·simp only [Act.put, sA_, sB_, sC_, i64_w, i32_w]
    rfl
   refine take_ (i := 15) (N := some 21) (v := ?_) (a' := ?_) #[true, true, true, true, false, true, true, true, true, false, false, true, true, false, true, true, false, false, false, false] rfl rfl (take_ofW HT_.out HW_.out (by kernel_rfl)) (fun _ _ _ h => h) (Or.inl ⟨by rfl, ?_⟩) hHeld ?_ ?_
   rotate_left
   ·rintro w' ⟨s0, s1, s2, s3, s4, s5, s6, s7, s8, s9, s10, s11, s12, s13, s14, s15, s16, s17, s18, s19, s20, s21, s22, s23, s24, s25⟩
    go_simp
    with_reducible rfl
   rotate_left
   ·simp only [Act.put, sA_, sB_, sC_, i64_w, i32_w]
    rfl
   refine one_ (i := 4) (N := some 10) #[true, true, true, true, true, true, true, true, true, false, false, true, true, false, true, true, false, false, false, false] rfl rfl (one_of HT_.out (by kernel_rfl)) (by decide) (fun K hK => ?_)
   refine goes_ Try.func44 (by kernel_rfl) rfl #[.agg #[.int .i64 a0_0, .int .i64 a0_1, .int .i64 a0_2, .int .i64 a0_3, .int .i64 a0_4, .bool a0_5], .agg #[.int .i64 a1_0, .int .i64 a1_1, .int .i64 a1_2, .int .i64 a1_3, .int .i64 a1_4, .bool a1_5]] (by rfl) rfl rfl args_ ?_
   with_reducible refine (impl_Shape_distance.calls k a0_0 a0_1 a0_2 a0_3 a0_4 a0_5 a1_0 a1_1 a1_2 a1_3 a1_4 a1_5 t333 _ A3.out).mono ?_
   rintro e w13 ⟨rfl, hb⟩
   refine ⟨_, rfl, ?_⟩
   have n0_ := Aside0.mk (lb_ BK331 hb)
   have n1_ := Aside0.mk (lb_ BK332 hb)
   have n2_ := Aside0.mk (below_step (bb2_ HB GE331 GE332) hb)
   clear BK331
   clear BK332
   clear HB
   have BK331 := n0_
   have BK332 := n1_
   have HB := n2_
   clear n0_ n1_ n2_
   (try clear hb)
   (try clear hb2)
   (try clear hk)
   (try clear hi)
   refine hK.out _ _ ⟨(blk_cell BK331.out 0).trans rfl, (blk_cell BK331.out 1).trans rfl, (blk_cell BK331.out 2).trans rfl, (blk_cell BK331.out 3).trans rfl, (blk_cell BK331.out 4).trans rfl, (blk_cell BK331.out 5).trans rfl, (blk_cell BK331.out 6).trans rfl, (blk_cell BK331.out 7).trans rfl, (blk_cell BK331.out 8).trans rfl, (blk_cell BK331.out 9).trans rfl, (blk_cell BK331.out 10).trans rfl, (blk_cell BK331.out 11).trans rfl, (blk_cell BK331.out 12).trans rfl, (blk_cell BK332.out 0).trans rfl, (blk_cell BK332.out 1).trans rfl, (blk_cell BK332.out 2).trans rfl, (blk_cell BK332.out 3).trans rfl, (blk_cell BK332.out 4).trans rfl, (blk_cell BK332.out 5).trans rfl, (blk_cell BK332.out 6).trans rfl, (blk_cell BK332.out 7).trans rfl, (blk_cell BK332.out 8).trans rfl, (blk_cell BK332.out 9).trans rfl, (blk_cell BK332.out 10).trans rfl, (blk_cell BK332.out 11).trans rfl, (blk_cell BK332.out 12).trans rfl⟩ (fun hHeld => ?_)
   clear hK K
   refine norm_ (a' := ?_) ?_ ?_
   rotate_left
   ·show Act.put _ (some 10) _ = _
    simp only [Act.put, sA_, sB_, sC_, i64_w, i32_w]
    rfl
   refine one_ (i := 9) (N := some 15) #[true, true, true, true, true, true, true, true, true, true, false, true, true, false, true, true, false, false, false, false] rfl rfl (one_of HT_.out (by kernel_rfl)) (by decide) (fun K hK => ?_)
   refine goes_ Try.func45 (by kernel_rfl) rfl #[.agg #[.int .i64 a0_8, .int .i64 a0_9, .bool a0_10], .agg #[.int .i64 a1_8, .int .i64 a1_9, .bool a1_10]] (by rfl) rfl rfl args_ ?_
   with_reducible refine (impl_Place_distance.calls a0_8 a0_9 a0_10 a1_8 a1_9 a1_10 t334 _ A4.out).mono ?_
   rintro e w14 ⟨rfl, hb⟩
   refine ⟨_, rfl, ?_⟩
   have n0_ := Aside0.mk (lb_ BK331 hb)
   have n1_ := Aside0.mk (lb_ BK332 hb)
   have n2_ := Aside0.mk (below_step (bb2_ HB GE331 GE332) hb)
   clear BK331
   clear BK332
   clear HB
   have BK331 := n0_
   have BK332 := n1_
   have HB := n2_
   clear n0_ n1_ n2_
   (try clear hb)
   (try clear hb2)
   (try clear hk)
   (try clear hi)
   refine hK.out _ _ ⟨(blk_cell BK331.out 0).trans rfl, (blk_cell BK331.out 1).trans rfl, (blk_cell BK331.out 2).trans rfl, (blk_cell BK331.out 3).trans rfl, (blk_cell BK331.out 4).trans rfl, (blk_cell BK331.out 5).trans rfl, (blk_cell BK331.out 6).trans rfl, (blk_cell BK331.out 7).trans rfl, (blk_cell BK331.out 8).trans rfl, (blk_cell BK331.out 9).trans rfl, (blk_cell BK331.out 10).trans rfl, (blk_cell BK331.out 11).trans rfl, (blk_cell BK331.out 12).trans rfl, (blk_cell BK332.out 0).trans rfl, (blk_cell BK332.out 1).trans rfl, (blk_cell BK332.out 2).trans rfl, (blk_cell BK332.out 3).trans rfl, (blk_cell BK332.out 4).trans rfl, (blk_cell BK332.out 5).trans rfl, (blk_cell BK332.out 6).trans rfl, (blk_cell BK332.out 7).trans rfl, (blk_cell BK332.out 8).trans rfl, (blk_cell BK332.out 9).trans rfl, (blk_cell BK332.out 10).trans rfl, (blk_cell BK332.out 11).trans rfl, (blk_cell BK332.out 12).trans rfl⟩ (fun hHeld => ?_)
   clear hK K
   refine norm_ (a' := ?_) ?_ ?_
   rotate_left
   ·show Act.put _ (some 15) _ = _
    simp only [Act.put, sA_, sB_, sC_, i64_w, i32_w]
    rfl
   refine pu_ (i := 10) (N := some 16) (v := ?_) (a' := ?_) #[true, true, true, true, true, true, true, true, true, true, true, true, true, false, true, true, false, false, false, false] rfl rfl (Or.inl ⟨by rfl, ?_⟩) ?_ ?_
   rotate_left
   ·intro w'
    go_simp
    with_reducible rfl
   rotate_left
   ·simp only [Act.put, sA_, sB_, sC_, i64_w, i32_w]
    rfl
   refine one_ (i := 13) (N := some 19) #[true, true, true, true, true, true, true, true, true, true, true, true, true, true, true, true, false, false, false, false] rfl rfl (one_of HT_.out (by kernel_rfl)) (by decide) (fun K hK => ?_)
   refine goes_ Try.func19 (by kernel_rfl) rfl #[.agg #[.string a0_11, .int .i64 a0_12]] (by rfl) rfl rfl args_ ?_
   with_reducible refine (impl_Move_all.calls a0_11 a0_12 t335 _ A5.out).mono ?_
   rintro e w15 ⟨rfl, hb⟩
   refine ⟨_, rfl, ?_⟩
   have n0_ := Aside0.mk (lb_ BK331 hb)
   have n1_ := Aside0.mk (lb_ BK332 hb)
   have n2_ := Aside0.mk (below_step (bb2_ HB GE331 GE332) hb)
   clear BK331
   clear BK332
   clear HB
   have BK331 := n0_
   have BK332 := n1_
   have HB := n2_
   clear n0_ n1_ n2_
   (try clear hb)
   (try clear hb2)
   (try clear hk)
   (try clear hi)
   refine hK.out _ _ ⟨(blk_cell BK331.out 0).trans rfl, (blk_cell BK331.out 1).trans rfl, (blk_cell BK331.out 2).trans rfl, (blk_cell BK331.out 3).trans rfl, (blk_cell BK331.out 4).trans rfl, (blk_cell BK331.out 5).trans rfl, (blk_cell BK331.out 6).trans rfl, (blk_cell BK331.out 7).trans rfl, (blk_cell BK331.out 8).trans rfl, (blk_cell BK331.out 9).trans rfl, (blk_cell BK331.out 10).trans rfl, (blk_cell BK331.out 11).trans rfl, (blk_cell BK331.out 12).trans rfl, (blk_cell BK332.out 0).trans rfl, (blk_cell BK332.out 1).trans rfl, (blk_cell BK332.out 2).trans rfl, (blk_cell BK332.out 3).trans rfl, (blk_cell BK332.out 4).trans rfl, (blk_cell BK332.out 5).trans rfl, (blk_cell BK332.out 6).trans rfl, (blk_cell BK332.out 7).trans rfl, (blk_cell BK332.out 8).trans rfl, (blk_cell BK332.out 9).trans rfl, (blk_cell BK332.out 10).trans rfl, (blk_cell BK332.out 11).trans rfl, (blk_cell BK332.out 12).trans rfl⟩ (fun hHeld => ?_)
   clear hK K
   refine norm_ (a' := ?_) ?_ ?_
   rotate_left
   ·show Act.put _ (some 19) _ = _
    simp only [Act.put, sA_, sB_, sC_, i64_w, i32_w]
    rfl
   refine one_ (i := 16) (N := some 22) #[true, true, true, true, true, true, true, true, true, true, true, true, true, true, true, true, true, false, false, false] rfl rfl (one_of HT_.out (by kernel_rfl)) (by decide) (fun K hK => ?_)
   refine goes_ Try.func19 (by kernel_rfl) rfl #[.agg #[.string a1_11, .int .i64 a1_12]] (by rfl) rfl rfl args_ ?_
   with_reducible refine (impl_Move_all.calls a1_11 a1_12 t336 _ A6.out).mono ?_
   rintro e w16 ⟨rfl, hb⟩
   refine ⟨_, rfl, ?_⟩
   have n0_ := Aside0.mk (lb_ BK331 hb)
   have n1_ := Aside0.mk (lb_ BK332 hb)
   have n2_ := Aside0.mk (below_step (bb2_ HB GE331 GE332) hb)
   clear BK331
   clear BK332
   clear HB
   have BK331 := n0_
   have BK332 := n1_
   have HB := n2_
   clear n0_ n1_ n2_
   (try clear hb)
   (try clear hb2)
   (try clear hk)
   (try clear hi)
   refine hK.out _ _ ⟨(blk_cell BK331.out 0).trans rfl, (blk_cell BK331.out 1).trans rfl, (blk_cell BK331.out 2).trans rfl, (blk_cell BK331.out 3).trans rfl, (blk_cell BK331.out 4).trans rfl, (blk_cell BK331.out 5).trans rfl, (blk_cell BK331.out 6).trans rfl, (blk_cell BK331.out 7).trans rfl, (blk_cell BK331.out 8).trans rfl, (blk_cell BK331.out 9).trans rfl, (blk_cell BK331.out 10).trans rfl, (blk_cell BK331.out 11).trans rfl, (blk_cell BK331.out 12).trans rfl, (blk_cell BK332.out 0).trans rfl, (blk_cell BK332.out 1).trans rfl, (blk_cell BK332.out 2).trans rfl, (blk_cell BK332.out 3).trans rfl, (blk_cell BK332.out 4).trans rfl, (blk_cell BK332.out 5).trans rfl, (blk_cell BK332.out 6).trans rfl, (blk_cell BK332.out 7).trans rfl, (blk_cell BK332.out 8).trans rfl, (blk_cell BK332.out 9).trans rfl, (blk_cell BK332.out 10).trans rfl, (blk_cell BK332.out 11).trans rfl, (blk_cell BK332.out 12).trans rfl⟩ (fun hHeld => ?_)
   clear hK K
   refine norm_ (a' := ?_) ?_ ?_
   rotate_left
   ·show Act.put _ (some 22) _ = _
    simp only [Act.put, sA_, sB_, sC_, i64_w, i32_w]
    rfl
   refine one_ (i := 17) (N := some 23) #[true, true, true, true, true, true, true, true, true, true, true, true, true, true, true, true, true, true, false, false] rfl rfl (one_of HT_.out (by kernel_rfl)) (by decide) (fun K hK => ?_)
   refine goes_ Try.func21 (by kernel_rfl) rfl #[.string t335, .string t336] (by rfl) rfl rfl args_ ?_
   with_reducible refine (impl_stepDistance.calls k t335 t336 t337 _ A7.out).mono ?_
   rintro e w17 ⟨rfl, hb⟩
   refine ⟨_, rfl, ?_⟩
   have n0_ := Aside0.mk (lb_ BK331 hb)
   have n1_ := Aside0.mk (lb_ BK332 hb)
   have n2_ := Aside0.mk (below_step (bb2_ HB GE331 GE332) hb)
   clear BK331
   clear BK332
   clear HB
   have BK331 := n0_
   have BK332 := n1_
   have HB := n2_
   clear n0_ n1_ n2_
   (try clear hb)
   (try clear hb2)
   (try clear hk)
   (try clear hi)
   refine hK.out _ _ ⟨(blk_cell BK331.out 0).trans rfl, (blk_cell BK331.out 1).trans rfl, (blk_cell BK331.out 2).trans rfl, (blk_cell BK331.out 3).trans rfl, (blk_cell BK331.out 4).trans rfl, (blk_cell BK331.out 5).trans rfl, (blk_cell BK331.out 6).trans rfl, (blk_cell BK331.out 7).trans rfl, (blk_cell BK331.out 8).trans rfl, (blk_cell BK331.out 9).trans rfl, (blk_cell BK331.out 10).trans rfl, (blk_cell BK331.out 11).trans rfl, (blk_cell BK331.out 12).trans rfl, (blk_cell BK332.out 0).trans rfl, (blk_cell BK332.out 1).trans rfl, (blk_cell BK332.out 2).trans rfl, (blk_cell BK332.out 3).trans rfl, (blk_cell BK332.out 4).trans rfl, (blk_cell BK332.out 5).trans rfl, (blk_cell BK332.out 6).trans rfl, (blk_cell BK332.out 7).trans rfl, (blk_cell BK332.out 8).trans rfl, (blk_cell BK332.out 9).trans rfl, (blk_cell BK332.out 10).trans rfl, (blk_cell BK332.out 11).trans rfl, (blk_cell BK332.out 12).trans rfl⟩ (fun hHeld => ?_)
   clear hK K
   refine norm_ (a' := ?_) ?_ ?_
   rotate_left
   ·show Act.put _ (some 23) _ = _
    simp only [Act.put, sA_, sB_, sC_, i64_w, i32_w]
    rfl
   refine pu_ (i := 18) (N := some 24) (v := ?_) (a' := ?_) #[true, true, true, true, true, true, true, true, true, true, true, true, true, true, true, true, true, true, true, false] rfl rfl (Or.inl ⟨by rfl, ?_⟩) ?_ ?_
   rotate_left
   ·intro w'
    go_simp
    with_reducible rfl
   rotate_left
   ·simp only [Act.put, sA_, sB_, sC_, i64_w, i32_w]
    rfl
   refine pu_ (i := 19) (N := some 5) (v := ?_) (a' := ?_) #[true, true, true, true, true, true, true, true, true, true, true, true, true, true, true, true, true, true, true, true] rfl rfl (Or.inl ⟨by rfl, ?_⟩) ?_ ?_
   rotate_left
   ·intro w'
    go_simp
    with_reducible rfl
   rotate_left
   ·simp only [Act.put, sA_, sB_, sC_, i64_w, i32_w]
    rfl
   refine done_ (done_of HT_.out (by kernel_rfl)) ?_
   have hnb18 := NB331_332.out
   have hnc18 := NB332_331.out
   have hcz19_0 := cz0_ BK331
   have hcz19_1 := cz1_ BK331
   have hcz19_2 := cz2_ BK331
   have hcz19_3 := cz3_ BK331
   have hcz19_4 : w17.cell? ⟨gb331, 4, none⟩ = some (.int .i64 a0_4) := (blk_cell BK331.out 4).trans rfl
   have hcz19_5 : w17.cell? ⟨gb331, 5, none⟩ = some (.bool a0_5) := (blk_cell BK331.out 5).trans rfl
   have hcz19_6 : w17.cell? ⟨gb331, 6, none⟩ = some (.int .i64 a0_6) := (blk_cell BK331.out 6).trans rfl
   have hcz19_7 : w17.cell? ⟨gb331, 7, none⟩ = some (.int .i64 a0_7) := (blk_cell BK331.out 7).trans rfl
   have hcz19_8 : w17.cell? ⟨gb331, 8, none⟩ = some (.int .i64 a0_8) := (blk_cell BK331.out 8).trans rfl
   have hcz19_9 : w17.cell? ⟨gb331, 9, none⟩ = some (.int .i64 a0_9) := (blk_cell BK331.out 9).trans rfl
   have hcz19_10 : w17.cell? ⟨gb331, 10, none⟩ = some (.bool a0_10) := (blk_cell BK331.out 10).trans rfl
   have hcz19_11 : w17.cell? ⟨gb331, 11, none⟩ = some (.string a0_11) := (blk_cell BK331.out 11).trans rfl
   have hcz19_12 : w17.cell? ⟨gb331, 12, none⟩ = some (.int .i64 a0_12) := (blk_cell BK331.out 12).trans rfl
   have hfz19_0 := fz_ BK331 0
   have hfz19_1 := fz_ BK331 1
   have hfz19_2 := fz_ BK331 2
   have hfz19_3 := fz_ BK331 3
   have hfz19_4 := fz_ BK331 4
   have hfz19_5 := fz_ BK331 5
   have hfz19_6 := fz_ BK331 6
   have hfz19_7 := fz_ BK331 7
   have hfz19_8 := fz_ BK331 8
   have hfz19_9 := fz_ BK331 9
   have hfz19_10 := fz_ BK331 10
   have hfz19_11 := fz_ BK331 11
   have hfz19_12 := fz_ BK331 12
   have hcz20_0 := cz0_ BK332
   have hcz20_1 := cz1_ BK332
   have hcz20_2 := cz2_ BK332
   have hcz20_3 := cz3_ BK332
   have hcz20_4 : w17.cell? ⟨gb332, 4, none⟩ = some (.int .i64 a1_4) := (blk_cell BK332.out 4).trans rfl
   have hcz20_5 : w17.cell? ⟨gb332, 5, none⟩ = some (.bool a1_5) := (blk_cell BK332.out 5).trans rfl
   have hcz20_6 : w17.cell? ⟨gb332, 6, none⟩ = some (.int .i64 a1_6) := (blk_cell BK332.out 6).trans rfl
   have hcz20_7 : w17.cell? ⟨gb332, 7, none⟩ = some (.int .i64 a1_7) := (blk_cell BK332.out 7).trans rfl
   have hcz20_8 : w17.cell? ⟨gb332, 8, none⟩ = some (.int .i64 a1_8) := (blk_cell BK332.out 8).trans rfl
   have hcz20_9 : w17.cell? ⟨gb332, 9, none⟩ = some (.int .i64 a1_9) := (blk_cell BK332.out 9).trans rfl
   have hcz20_10 : w17.cell? ⟨gb332, 10, none⟩ = some (.bool a1_10) := (blk_cell BK332.out 10).trans rfl
   have hcz20_11 : w17.cell? ⟨gb332, 11, none⟩ = some (.string a1_11) := (blk_cell BK332.out 11).trans rfl
   have hcz20_12 : w17.cell? ⟨gb332, 12, none⟩ = some (.int .i64 a1_12) := (blk_cell BK332.out 12).trans rfl
   have hfz20_0 := fz_ BK332 0
   have hfz20_1 := fz_ BK332 1
   have hfz20_2 := fz_ BK332 2
   have hfz20_3 := fz_ BK332 3
   have hfz20_4 := fz_ BK332 4
   have hfz20_5 := fz_ BK332 5
   have hfz20_6 := fz_ BK332 6
   have hfz20_7 := fz_ BK332 7
   have hfz20_8 := fz_ BK332 8
   have hfz20_9 := fz_ BK332 9
   have hfz20_10 := fz_ BK332 10
   have hfz20_11 := fz_ BK332 11
   have hfz20_12 := fz_ BK332 12
   try go_wp2
   go_ret
   exact ⟨by first | rfl | (simp [errW_none, errW_some] <;> rfl) | (simp [*, errW_none, errW_some] <;> rfl), bb2_ HB GE331 GE332⟩
  ·rw [if_neg c9] at H
   have c9b0 : (a0_7 == a1_7) = false := beq_eq_false_iff_ne.mpr c9
   have c9b1 : (a0_7 != a1_7) = true := bne_iff_ne.mpr c9
   obtain rfl := Option.some.inj H
   go_enter Try.func28, Try.ntmps28
   try go_wp2_with (first | ((with_reducible refine gate_dst (N := 2) rfl ?_); refine box_event ?hg (N := 2) ?hd (cs := #[.int .i64 a0_0, .int .i64 a0_1, .int .i64 a0_2, .int .i64 a0_3, .int .i64 a0_4, .bool a0_5, .int .i64 a0_6, .int .i64 a0_7, .int .i64 a0_8, .int .i64 a0_9, .bool a0_10, .string a0_11, .int .i64 a0_12]) (t := 47) ?hr ?_; (case hd => rfl); (case hg => rfl); (case hr => first | (go_simp; done) | (go_simp; rfl)); intro gb331 hg w21 hbox hb; have n0_ := Aside0.mk (bt_ HB hb); have n1_ := Aside0.mk (hbox); have n2_ := gz_ hg HB; have n3_ := gz_ hg HB; clear HB; have HB := n0_; have BK331 := n1_; have GW331 := n2_; have GE331 := n3_; clear n0_ n1_ n2_ n3_; clear hb hbox hg) | ((with_reducible refine gate_dst (N := 3) rfl ?_); refine box_event ?hg (N := 3) ?hd (cs := #[.int .i64 a1_0, .int .i64 a1_1, .int .i64 a1_2, .int .i64 a1_3, .int .i64 a1_4, .bool a1_5, .int .i64 a1_6, .int .i64 a1_7, .int .i64 a1_8, .int .i64 a1_9, .bool a1_10, .string a1_11, .int .i64 a1_12]) (t := 47) ?hr ?_; (case hd => rfl); (case hg => rfl); (case hr => first | (go_simp; done) | (go_simp; rfl)); intro gb332 hg w22 hbox hb; have n0_ := Aside0.mk (lb_ BK331 hb); have n1_ := Aside0.mk (below_step (bb1_ HB GE331) hb); have n2_ := Aside0.mk (hbox); have n3_ := gy_ hg (bb1_ HB GE331); have n4_ := gy_ hg (bb1_ HB GE331); have n5_ := nl_ hg BK331; have n6_ := ng_ hg BK331; clear BK331; clear HB; have BK331 := n0_; have HB := n1_; have BK332 := n2_; have GW332 := n3_; have GE332 := n4_; have NB331_332 := n5_; have NB332_331 := n6_; clear n0_ n1_ n2_ n3_ n4_ n5_ n6_; clear hb hbox hg))
   have n0_ := Aside0.mk (blk_drew BK331.out)
   have n1_ := Aside0.mk (blk_drew BK332.out)
   have n2_ := Aside0.mk (below_drew1 HB.out)
   clear BK331
   clear BK332
   clear HB
   have BK331 := n0_
   have BK332 := n1_
   have HB := n2_
   clear n0_ n1_ n2_
   refine start_ (n := 20) (S := fun w' => w'.cell? ⟨gb331, 0, none⟩ = some (.int .i64 a0_0) ∧ w'.cell? ⟨gb331, 1, none⟩ = some (.int .i64 a0_1) ∧ w'.cell? ⟨gb331, 2, none⟩ = some (.int .i64 a0_2) ∧ w'.cell? ⟨gb331, 3, none⟩ = some (.int .i64 a0_3) ∧ w'.cell? ⟨gb331, 4, none⟩ = some (.int .i64 a0_4) ∧ w'.cell? ⟨gb331, 5, none⟩ = some (.bool a0_5) ∧ w'.cell? ⟨gb331, 6, none⟩ = some (.int .i64 a0_6) ∧ w'.cell? ⟨gb331, 7, none⟩ = some (.int .i64 a0_7) ∧ w'.cell? ⟨gb331, 8, none⟩ = some (.int .i64 a0_8) ∧ w'.cell? ⟨gb331, 9, none⟩ = some (.int .i64 a0_9) ∧ w'.cell? ⟨gb331, 10, none⟩ = some (.bool a0_10) ∧ w'.cell? ⟨gb331, 11, none⟩ = some (.string a0_11) ∧ w'.cell? ⟨gb331, 12, none⟩ = some (.int .i64 a0_12) ∧ w'.cell? ⟨gb332, 0, none⟩ = some (.int .i64 a1_0) ∧ w'.cell? ⟨gb332, 1, none⟩ = some (.int .i64 a1_1) ∧ w'.cell? ⟨gb332, 2, none⟩ = some (.int .i64 a1_2) ∧ w'.cell? ⟨gb332, 3, none⟩ = some (.int .i64 a1_3) ∧ w'.cell? ⟨gb332, 4, none⟩ = some (.int .i64 a1_4) ∧ w'.cell? ⟨gb332, 5, none⟩ = some (.bool a1_5) ∧ w'.cell? ⟨gb332, 6, none⟩ = some (.int .i64 a1_6) ∧ w'.cell? ⟨gb332, 7, none⟩ = some (.int .i64 a1_7) ∧ w'.cell? ⟨gb332, 8, none⟩ = some (.int .i64 a1_8) ∧ w'.cell? ⟨gb332, 9, none⟩ = some (.int .i64 a1_9) ∧ w'.cell? ⟨gb332, 10, none⟩ = some (.bool a1_10) ∧ w'.cell? ⟨gb332, 11, none⟩ = some (.string a1_11) ∧ w'.cell? ⟨gb332, 12, none⟩ = some (.int .i64 a1_12)) (ds := []) #[false, false, false, false, false, false, false, false, false, false, false, false, false, false, false, false, false, false, false, false] (by kernel_rfl) rfl rfl ⟨(blk_cell BK331.out 0).trans rfl, (blk_cell BK331.out 1).trans rfl, (blk_cell BK331.out 2).trans rfl, (blk_cell BK331.out 3).trans rfl, (blk_cell BK331.out 4).trans rfl, (blk_cell BK331.out 5).trans rfl, (blk_cell BK331.out 6).trans rfl, (blk_cell BK331.out 7).trans rfl, (blk_cell BK331.out 8).trans rfl, (blk_cell BK331.out 9).trans rfl, (blk_cell BK331.out 10).trans rfl, (blk_cell BK331.out 11).trans rfl, (blk_cell BK331.out 12).trans rfl, (blk_cell BK332.out 0).trans rfl, (blk_cell BK332.out 1).trans rfl, (blk_cell BK332.out 2).trans rfl, (blk_cell BK332.out 3).trans rfl, (blk_cell BK332.out 4).trans rfl, (blk_cell BK332.out 5).trans rfl, (blk_cell BK332.out 6).trans rfl, (blk_cell BK332.out 7).trans rfl, (blk_cell BK332.out 8).trans rfl, (blk_cell BK332.out 9).trans rfl, (blk_cell BK332.out 10).trans rfl, (blk_cell BK332.out 11).trans rfl, (blk_cell BK332.out 12).trans rfl⟩ (fun hHeld => ?_); refine with_tabW impl_Hand_distance.tab1 impl_Hand_distance.bits1 (fun HT_ HW_ => ?_)
   generalize w22.drew = w23 at BK331 BK332 HB hHeld ⊢
   refine pu_ (i := 0) (N := some 6) (v := ?_) (a' := ?_) #[true, false, false, false, false, false, false, false, false, false, false, false, false, false, false, false, false, false, false, false] rfl rfl (Or.inl ⟨by rfl, ?_⟩) ?_ ?_
   rotate_left
   ·intro w'
    go_simp
    with_reducible rfl
   rotate_left
   ·simp only [Act.put, sA_, sB_, sC_, i64_w, i32_w]
    rfl
   refine pu_ (i := 2) (N := some 8) (v := ?_) (a' := ?_) #[true, false, true, false, false, false, false, false, false, false, false, false, false, false, false, false, false, false, false, false] rfl rfl (Or.inl ⟨by rfl, ?_⟩) ?_ ?_
   rotate_left
   ·intro w'
    go_simp
    with_reducible rfl
   rotate_left
   ·simp only [Act.put, sA_, sB_, sC_, i64_w, i32_w]
    rfl
   refine pu_ (i := 5) (N := some 11) (v := ?_) (a' := ?_) #[true, false, true, false, false, true, false, false, false, false, false, false, false, false, false, false, false, false, false, false] rfl rfl (Or.inl ⟨by rfl, ?_⟩) ?_ ?_
   rotate_left
   ·intro w'
    go_simp
    with_reducible rfl
   rotate_left
   ·simp only [Act.put, sA_, sB_, sC_, i64_w, i32_w]
    rfl
   refine pu_ (i := 7) (N := some 13) (v := ?_) (a' := ?_) #[true, false, true, false, false, true, false, true, false, false, false, false, false, false, false, false, false, false, false, false] rfl rfl (Or.inl ⟨by rfl, ?_⟩) ?_ ?_
   rotate_left
   ·intro w'
    go_simp
    with_reducible rfl
   rotate_left
   ·simp only [Act.put, sA_, sB_, sC_, i64_w, i32_w]
    rfl
   refine pu_ (i := 11) (N := some 17) (v := ?_) (a' := ?_) #[true, false, true, false, false, true, false, true, false, false, false, true, false, false, false, false, false, false, false, false] rfl rfl (Or.inl ⟨by rfl, ?_⟩) ?_ ?_
   rotate_left
   ·intro w'
    go_simp
    with_reducible rfl
   rotate_left
   ·simp only [Act.put, sA_, sB_, sC_, i64_w, i32_w]
    rfl
   refine pu_ (i := 14) (N := some 20) (v := ?_) (a' := ?_) #[true, false, true, false, false, true, false, true, false, false, false, true, false, false, true, false, false, false, false, false] rfl rfl (Or.inl ⟨by rfl, ?_⟩) ?_ ?_
   rotate_left
   ·intro w'
    go_simp
    with_reducible rfl
   rotate_left
   ·simp only [Act.put, sA_, sB_, sC_, i64_w, i32_w]
    rfl
   refine take_ (i := 1) (N := some 7) (v := ?_) (a' := ?_) #[true, true, true, false, false, true, false, true, false, false, false, true, false, false, true, false, false, false, false, false] rfl rfl (take_ofW HT_.out HW_.out (by kernel_rfl)) (fun _ _ _ h => h) (Or.inl ⟨by rfl, ?_⟩) hHeld ?_ ?_
   rotate_left
   ·rintro w' ⟨s0, s1, s2, s3, s4, s5, s6, s7, s8, s9, s10, s11, s12, s13, s14, s15, s16, s17, s18, s19, s20, s21, s22, s23, s24, s25⟩
    go_simp
    with_reducible rfl
   rotate_left
   ·simp only [Act.put, sA_, sB_, sC_, i64_w, i32_w]
    rfl
   refine take_ (i := 3) (N := some 9) (v := ?_) (a' := ?_) #[true, true, true, true, false, true, false, true, false, false, false, true, false, false, true, false, false, false, false, false] rfl rfl (take_ofW HT_.out HW_.out (by kernel_rfl)) (fun _ _ _ h => h) (Or.inl ⟨by rfl, ?_⟩) hHeld ?_ ?_
   rotate_left
   ·rintro w' ⟨s0, s1, s2, s3, s4, s5, s6, s7, s8, s9, s10, s11, s12, s13, s14, s15, s16, s17, s18, s19, s20, s21, s22, s23, s24, s25⟩
    go_simp
    with_reducible rfl
   rotate_left
   ·simp only [Act.put, sA_, sB_, sC_, i64_w, i32_w]
    rfl
   refine take_ (i := 6) (N := some 12) (v := ?_) (a' := ?_) #[true, true, true, true, false, true, true, true, false, false, false, true, false, false, true, false, false, false, false, false] rfl rfl (take_ofW HT_.out HW_.out (by kernel_rfl)) (fun _ _ _ h => h) (Or.inl ⟨by rfl, ?_⟩) hHeld ?_ ?_
   rotate_left
   ·rintro w' ⟨s0, s1, s2, s3, s4, s5, s6, s7, s8, s9, s10, s11, s12, s13, s14, s15, s16, s17, s18, s19, s20, s21, s22, s23, s24, s25⟩
    go_simp
    with_reducible rfl
   rotate_left
   ·simp only [Act.put, sA_, sB_, sC_, i64_w, i32_w]
    rfl
   refine take_ (i := 8) (N := some 14) (v := ?_) (a' := ?_) #[true, true, true, true, false, true, true, true, true, false, false, true, false, false, true, false, false, false, false, false] rfl rfl (take_ofW HT_.out HW_.out (by kernel_rfl)) (fun _ _ _ h => h) (Or.inl ⟨by rfl, ?_⟩) hHeld ?_ ?_
   rotate_left
   ·rintro w' ⟨s0, s1, s2, s3, s4, s5, s6, s7, s8, s9, s10, s11, s12, s13, s14, s15, s16, s17, s18, s19, s20, s21, s22, s23, s24, s25⟩
    go_simp
    with_reducible rfl
   rotate_left
   ·simp only [Act.put, sA_, sB_, sC_, i64_w, i32_w]
    rfl
   refine take_ (i := 12) (N := some 18) (v := ?_) (a' := ?_) #[true, true, true, true, false, true, true, true, true, false, false, true, true, false, true, false, false, false, false, false] rfl rfl (take_ofW HT_.out HW_.out (by kernel_rfl)) (fun _ _ _ h => h) (Or.inl ⟨by rfl, ?_⟩) hHeld ?_ ?_
   rotate_left
   ·rintro w' ⟨s0, s1, s2, s3, s4, s5, s6, s7, s8, s9, s10, s11, s12, s13, s14, s15, s16, s17, s18, s19, s20, s21, s22, s23, s24, s25⟩
    go_simp
    with_reducible rfl
   rotate_left
   ·simp only [Act.put, sA_, sB_, sC_, i64_w, i32_w]
    rfl
   refine take_ (i := 15) (N := some 21) (v := ?_) (a' := ?_) #[true, true, true, true, false, true, true, true, true, false, false, true, true, false, true, true, false, false, false, false] rfl rfl (take_ofW HT_.out HW_.out (by kernel_rfl)) (fun _ _ _ h => h) (Or.inl ⟨by rfl, ?_⟩) hHeld ?_ ?_
   rotate_left
   ·rintro w' ⟨s0, s1, s2, s3, s4, s5, s6, s7, s8, s9, s10, s11, s12, s13, s14, s15, s16, s17, s18, s19, s20, s21, s22, s23, s24, s25⟩
    go_simp
    with_reducible rfl
   rotate_left
   ·simp only [Act.put, sA_, sB_, sC_, i64_w, i32_w]
    rfl
   refine one_ (i := 4) (N := some 10) #[true, true, true, true, true, true, true, true, true, false, false, true, true, false, true, true, false, false, false, false] rfl rfl (one_of HT_.out (by kernel_rfl)) (by decide) (fun K hK => ?_)
   refine goes_ Try.func44 (by kernel_rfl) rfl #[.agg #[.int .i64 a0_0, .int .i64 a0_1, .int .i64 a0_2, .int .i64 a0_3, .int .i64 a0_4, .bool a0_5], .agg #[.int .i64 a1_0, .int .i64 a1_1, .int .i64 a1_2, .int .i64 a1_3, .int .i64 a1_4, .bool a1_5]] (by rfl) rfl rfl args_ ?_
   with_reducible refine (impl_Shape_distance.calls k a0_0 a0_1 a0_2 a0_3 a0_4 a0_5 a1_0 a1_1 a1_2 a1_3 a1_4 a1_5 t333 _ A3.out).mono ?_
   rintro e w24 ⟨rfl, hb⟩
   refine ⟨_, rfl, ?_⟩
   have n0_ := Aside0.mk (lb_ BK331 hb)
   have n1_ := Aside0.mk (lb_ BK332 hb)
   have n2_ := Aside0.mk (below_step (bb2_ HB GE331 GE332) hb)
   clear BK331
   clear BK332
   clear HB
   have BK331 := n0_
   have BK332 := n1_
   have HB := n2_
   clear n0_ n1_ n2_
   (try clear hb)
   (try clear hb2)
   (try clear hk)
   (try clear hi)
   refine hK.out _ _ ⟨(blk_cell BK331.out 0).trans rfl, (blk_cell BK331.out 1).trans rfl, (blk_cell BK331.out 2).trans rfl, (blk_cell BK331.out 3).trans rfl, (blk_cell BK331.out 4).trans rfl, (blk_cell BK331.out 5).trans rfl, (blk_cell BK331.out 6).trans rfl, (blk_cell BK331.out 7).trans rfl, (blk_cell BK331.out 8).trans rfl, (blk_cell BK331.out 9).trans rfl, (blk_cell BK331.out 10).trans rfl, (blk_cell BK331.out 11).trans rfl, (blk_cell BK331.out 12).trans rfl, (blk_cell BK332.out 0).trans rfl, (blk_cell BK332.out 1).trans rfl, (blk_cell BK332.out 2).trans rfl, (blk_cell BK332.out 3).trans rfl, (blk_cell BK332.out 4).trans rfl, (blk_cell BK332.out 5).trans rfl, (blk_cell BK332.out 6).trans rfl, (blk_cell BK332.out 7).trans rfl, (blk_cell BK332.out 8).trans rfl, (blk_cell BK332.out 9).trans rfl, (blk_cell BK332.out 10).trans rfl, (blk_cell BK332.out 11).trans rfl, (blk_cell BK332.out 12).trans rfl⟩ (fun hHeld => ?_)
   clear hK K
   refine norm_ (a' := ?_) ?_ ?_
   rotate_left
   ·show Act.put _ (some 10) _ = _
    simp only [Act.put, sA_, sB_, sC_, i64_w, i32_w]
    rfl
   refine one_ (i := 9) (N := some 15) #[true, true, true, true, true, true, true, true, true, true, false, true, true, false, true, true, false, false, false, false] rfl rfl (one_of HT_.out (by kernel_rfl)) (by decide) (fun K hK => ?_)
   refine goes_ Try.func45 (by kernel_rfl) rfl #[.agg #[.int .i64 a0_8, .int .i64 a0_9, .bool a0_10], .agg #[.int .i64 a1_8, .int .i64 a1_9, .bool a1_10]] (by rfl) rfl rfl args_ ?_
   with_reducible refine (impl_Place_distance.calls a0_8 a0_9 a0_10 a1_8 a1_9 a1_10 t334 _ A4.out).mono ?_
   rintro e w25 ⟨rfl, hb⟩
   refine ⟨_, rfl, ?_⟩
   have n0_ := Aside0.mk (lb_ BK331 hb)
   have n1_ := Aside0.mk (lb_ BK332 hb)
   have n2_ := Aside0.mk (below_step (bb2_ HB GE331 GE332) hb)
   clear BK331
   clear BK332
   clear HB
   have BK331 := n0_
   have BK332 := n1_
   have HB := n2_
   clear n0_ n1_ n2_
   (try clear hb)
   (try clear hb2)
   (try clear hk)
   (try clear hi)
   refine hK.out _ _ ⟨(blk_cell BK331.out 0).trans rfl, (blk_cell BK331.out 1).trans rfl, (blk_cell BK331.out 2).trans rfl, (blk_cell BK331.out 3).trans rfl, (blk_cell BK331.out 4).trans rfl, (blk_cell BK331.out 5).trans rfl, (blk_cell BK331.out 6).trans rfl, (blk_cell BK331.out 7).trans rfl, (blk_cell BK331.out 8).trans rfl, (blk_cell BK331.out 9).trans rfl, (blk_cell BK331.out 10).trans rfl, (blk_cell BK331.out 11).trans rfl, (blk_cell BK331.out 12).trans rfl, (blk_cell BK332.out 0).trans rfl, (blk_cell BK332.out 1).trans rfl, (blk_cell BK332.out 2).trans rfl, (blk_cell BK332.out 3).trans rfl, (blk_cell BK332.out 4).trans rfl, (blk_cell BK332.out 5).trans rfl, (blk_cell BK332.out 6).trans rfl, (blk_cell BK332.out 7).trans rfl, (blk_cell BK332.out 8).trans rfl, (blk_cell BK332.out 9).trans rfl, (blk_cell BK332.out 10).trans rfl, (blk_cell BK332.out 11).trans rfl, (blk_cell BK332.out 12).trans rfl⟩ (fun hHeld => ?_)
   clear hK K
   refine norm_ (a' := ?_) ?_ ?_
   rotate_left
   ·show Act.put _ (some 15) _ = _
    simp only [Act.put, sA_, sB_, sC_, i64_w, i32_w]
    rfl
   refine pu_ (i := 10) (N := some 16) (v := ?_) (a' := ?_) #[true, true, true, true, true, true, true, true, true, true, true, true, true, false, true, true, false, false, false, false] rfl rfl (Or.inl ⟨by rfl, ?_⟩) ?_ ?_
   rotate_left
   ·intro w'
    go_simp
    with_reducible rfl
   rotate_left
   ·simp only [Act.put, sA_, sB_, sC_, i64_w, i32_w]
    rfl
   refine one_ (i := 13) (N := some 19) #[true, true, true, true, true, true, true, true, true, true, true, true, true, true, true, true, false, false, false, false] rfl rfl (one_of HT_.out (by kernel_rfl)) (by decide) (fun K hK => ?_)
   refine goes_ Try.func19 (by kernel_rfl) rfl #[.agg #[.string a0_11, .int .i64 a0_12]] (by rfl) rfl rfl args_ ?_
   with_reducible refine (impl_Move_all.calls a0_11 a0_12 t335 _ A5.out).mono ?_
   rintro e w26 ⟨rfl, hb⟩
   refine ⟨_, rfl, ?_⟩
   have n0_ := Aside0.mk (lb_ BK331 hb)
   have n1_ := Aside0.mk (lb_ BK332 hb)
   have n2_ := Aside0.mk (below_step (bb2_ HB GE331 GE332) hb)
   clear BK331
   clear BK332
   clear HB
   have BK331 := n0_
   have BK332 := n1_
   have HB := n2_
   clear n0_ n1_ n2_
   (try clear hb)
   (try clear hb2)
   (try clear hk)
   (try clear hi)
   refine hK.out _ _ ⟨(blk_cell BK331.out 0).trans rfl, (blk_cell BK331.out 1).trans rfl, (blk_cell BK331.out 2).trans rfl, (blk_cell BK331.out 3).trans rfl, (blk_cell BK331.out 4).trans rfl, (blk_cell BK331.out 5).trans rfl, (blk_cell BK331.out 6).trans rfl, (blk_cell BK331.out 7).trans rfl, (blk_cell BK331.out 8).trans rfl, (blk_cell BK331.out 9).trans rfl, (blk_cell BK331.out 10).trans rfl, (blk_cell BK331.out 11).trans rfl, (blk_cell BK331.out 12).trans rfl, (blk_cell BK332.out 0).trans rfl, (blk_cell BK332.out 1).trans rfl, (blk_cell BK332.out 2).trans rfl, (blk_cell BK332.out 3).trans rfl, (blk_cell BK332.out 4).trans rfl, (blk_cell BK332.out 5).trans rfl, (blk_cell BK332.out 6).trans rfl, (blk_cell BK332.out 7).trans rfl, (blk_cell BK332.out 8).trans rfl, (blk_cell BK332.out 9).trans rfl, (blk_cell BK332.out 10).trans rfl, (blk_cell BK332.out 11).trans rfl, (blk_cell BK332.out 12).trans rfl⟩ (fun hHeld => ?_)
   clear hK K
   refine norm_ (a' := ?_) ?_ ?_
   rotate_left
   ·show Act.put _ (some 19) _ = _
    simp only [Act.put, sA_, sB_, sC_, i64_w, i32_w]
    rfl
   refine one_ (i := 16) (N := some 22) #[true, true, true, true, true, true, true, true, true, true, true, true, true, true, true, true, true, false, false, false] rfl rfl (one_of HT_.out (by kernel_rfl)) (by decide) (fun K hK => ?_)
   refine goes_ Try.func19 (by kernel_rfl) rfl #[.agg #[.string a1_11, .int .i64 a1_12]] (by rfl) rfl rfl args_ ?_
   with_reducible refine (impl_Move_all.calls a1_11 a1_12 t336 _ A6.out).mono ?_
   rintro e w27 ⟨rfl, hb⟩
   refine ⟨_, rfl, ?_⟩
   have n0_ := Aside0.mk (lb_ BK331 hb)
   have n1_ := Aside0.mk (lb_ BK332 hb)
   have n2_ := Aside0.mk (below_step (bb2_ HB GE331 GE332) hb)
   clear BK331
   clear BK332
   clear HB
   have BK331 := n0_
   have BK332 := n1_
   have HB := n2_
   clear n0_ n1_ n2_
   (try clear hb)
   (try clear hb2)
   (try clear hk)
   (try clear hi)
   refine hK.out _ _ ⟨(blk_cell BK331.out 0).trans rfl, (blk_cell BK331.out 1).trans rfl, (blk_cell BK331.out 2).trans rfl, (blk_cell BK331.out 3).trans rfl, (blk_cell BK331.out 4).trans rfl, (blk_cell BK331.out 5).trans rfl, (blk_cell BK331.out 6).trans rfl, (blk_cell BK331.out 7).trans rfl, (blk_cell BK331.out 8).trans rfl, (blk_cell BK331.out 9).trans rfl, (blk_cell BK331.out 10).trans rfl, (blk_cell BK331.out 11).trans rfl, (blk_cell BK331.out 12).trans rfl, (blk_cell BK332.out 0).trans rfl, (blk_cell BK332.out 1).trans rfl, (blk_cell BK332.out 2).trans rfl, (blk_cell BK332.out 3).trans rfl, (blk_cell BK332.out 4).trans rfl, (blk_cell BK332.out 5).trans rfl, (blk_cell BK332.out 6).trans rfl, (blk_cell BK332.out 7).trans rfl, (blk_cell BK332.out 8).trans rfl, (blk_cell BK332.out 9).trans rfl, (blk_cell BK332.out 10).trans rfl, (blk_cell BK332.out 11).trans rfl, (blk_cell BK332.out 12).trans rfl⟩ (fun hHeld => ?_)
   clear hK K
   refine norm_ (a' := ?_) ?_ ?_
   rotate_left
   ·show Act.put _ (some 22) _ = _
    simp only [Act.put, sA_, sB_, sC_, i64_w, i32_w]
    rfl
   refine one_ (i := 17) (N := some 23) #[true, true, true, true, true, true, true, true, true, true, true, true, true, true, true, true, true, true, false, false] rfl rfl (one_of HT_.out (by kernel_rfl)) (by decide) (fun K hK => ?_)
   refine goes_ Try.func21 (by kernel_rfl) rfl #[.string t335, .string t336] (by rfl) rfl rfl args_ ?_
   with_reducible refine (impl_stepDistance.calls k t335 t336 t337 _ A7.out).mono ?_
   rintro e w28 ⟨rfl, hb⟩
   refine ⟨_, rfl, ?_⟩
   have n0_ := Aside0.mk (lb_ BK331 hb)
   have n1_ := Aside0.mk (lb_ BK332 hb)
   have n2_ := Aside0.mk (below_step (bb2_ HB GE331 GE332) hb)
   clear BK331
   clear BK332
   clear HB
   have BK331 := n0_
   have BK332 := n1_
   have HB := n2_
   clear n0_ n1_ n2_
   (try clear hb)
   (try clear hb2)
   (try clear hk)
   (try clear hi)
   refine hK.out _ _ ⟨(blk_cell BK331.out 0).trans rfl, (blk_cell BK331.out 1).trans rfl, (blk_cell BK331.out 2).trans rfl, (blk_cell BK331.out 3).trans rfl, (blk_cell BK331.out 4).trans rfl, (blk_cell BK331.out 5).trans rfl, (blk_cell BK331.out 6).trans rfl, (blk_cell BK331.out 7).trans rfl, (blk_cell BK331.out 8).trans rfl, (blk_cell BK331.out 9).trans rfl, (blk_cell BK331.out 10).trans rfl, (blk_cell BK331.out 11).trans rfl, (blk_cell BK331.out 12).trans rfl, (blk_cell BK332.out 0).trans rfl, (blk_cell BK332.out 1).trans rfl, (blk_cell BK332.out 2).trans rfl, (blk_cell BK332.out 3).trans rfl, (blk_cell BK332.out 4).trans rfl, (blk_cell BK332.out 5).trans rfl, (blk_cell BK332.out 6).trans rfl, (blk_cell BK332.out 7).trans rfl, (blk_cell BK332.out 8).trans rfl, (blk_cell BK332.out 9).trans rfl, (blk_cell BK332.out 10).trans rfl, (blk_cell BK332.out 11).trans rfl, (blk_cell BK332.out 12).trans rfl⟩ (fun hHeld => ?_)
   clear hK K
   refine norm_ (a' := ?_) ?_ ?_
   rotate_left
   ·show Act.put _ (some 23) _ = _
    simp only [Act.put, sA_, sB_, sC_, i64_w, i32_w]
    rfl
   refine pu_ (i := 18) (N := some 24) (v := ?_) (a' := ?_) #[true, true, true, true, true, true, true, true, true, true, true, true, true, true, true, true, true, true, true, false] rfl rfl (Or.inl ⟨by rfl, ?_⟩) ?_ ?_
   rotate_left
   ·intro w'
    go_simp
    with_reducible rfl
   rotate_left
   ·simp only [Act.put, sA_, sB_, sC_, i64_w, i32_w]
    rfl
   refine pu_ (i := 19) (N := some 5) (v := ?_) (a' := ?_) #[true, true, true, true, true, true, true, true, true, true, true, true, true, true, true, true, true, true, true, true] rfl rfl (Or.inl ⟨by rfl, ?_⟩) ?_ ?_
   rotate_left
   ·intro w'
    go_simp
    with_reducible rfl
   rotate_left
   ·simp only [Act.put, sA_, sB_, sC_, i64_w, i32_w]
    rfl
   refine done_ (done_of HT_.out (by kernel_rfl)) ?_
   have hnb29 := NB331_332.out
   have hnc29 := NB332_331.out
   have hcz30_0 := cz0_ BK331
   have hcz30_1 := cz1_ BK331
   have hcz30_2 := cz2_ BK331
   have hcz30_3 := cz3_ BK331
   have hcz30_4 : w28.cell? ⟨gb331, 4, none⟩ = some (.int .i64 a0_4) := (blk_cell BK331.out 4).trans rfl
   have hcz30_5 : w28.cell? ⟨gb331, 5, none⟩ = some (.bool a0_5) := (blk_cell BK331.out 5).trans rfl
   have hcz30_6 : w28.cell? ⟨gb331, 6, none⟩ = some (.int .i64 a0_6) := (blk_cell BK331.out 6).trans rfl
   have hcz30_7 : w28.cell? ⟨gb331, 7, none⟩ = some (.int .i64 a0_7) := (blk_cell BK331.out 7).trans rfl
   have hcz30_8 : w28.cell? ⟨gb331, 8, none⟩ = some (.int .i64 a0_8) := (blk_cell BK331.out 8).trans rfl
   have hcz30_9 : w28.cell? ⟨gb331, 9, none⟩ = some (.int .i64 a0_9) := (blk_cell BK331.out 9).trans rfl
   have hcz30_10 : w28.cell? ⟨gb331, 10, none⟩ = some (.bool a0_10) := (blk_cell BK331.out 10).trans rfl
   have hcz30_11 : w28.cell? ⟨gb331, 11, none⟩ = some (.string a0_11) := (blk_cell BK331.out 11).trans rfl
   have hcz30_12 : w28.cell? ⟨gb331, 12, none⟩ = some (.int .i64 a0_12) := (blk_cell BK331.out 12).trans rfl
   have hfz30_0 := fz_ BK331 0
   have hfz30_1 := fz_ BK331 1
   have hfz30_2 := fz_ BK331 2
   have hfz30_3 := fz_ BK331 3
   have hfz30_4 := fz_ BK331 4
   have hfz30_5 := fz_ BK331 5
   have hfz30_6 := fz_ BK331 6
   have hfz30_7 := fz_ BK331 7
   have hfz30_8 := fz_ BK331 8
   have hfz30_9 := fz_ BK331 9
   have hfz30_10 := fz_ BK331 10
   have hfz30_11 := fz_ BK331 11
   have hfz30_12 := fz_ BK331 12
   have hcz31_0 := cz0_ BK332
   have hcz31_1 := cz1_ BK332
   have hcz31_2 := cz2_ BK332
   have hcz31_3 := cz3_ BK332
   have hcz31_4 : w28.cell? ⟨gb332, 4, none⟩ = some (.int .i64 a1_4) := (blk_cell BK332.out 4).trans rfl
   have hcz31_5 : w28.cell? ⟨gb332, 5, none⟩ = some (.bool a1_5) := (blk_cell BK332.out 5).trans rfl
   have hcz31_6 : w28.cell? ⟨gb332, 6, none⟩ = some (.int .i64 a1_6) := (blk_cell BK332.out 6).trans rfl
   have hcz31_7 : w28.cell? ⟨gb332, 7, none⟩ = some (.int .i64 a1_7) := (blk_cell BK332.out 7).trans rfl
   have hcz31_8 : w28.cell? ⟨gb332, 8, none⟩ = some (.int .i64 a1_8) := (blk_cell BK332.out 8).trans rfl
   have hcz31_9 : w28.cell? ⟨gb332, 9, none⟩ = some (.int .i64 a1_9) := (blk_cell BK332.out 9).trans rfl
   have hcz31_10 : w28.cell? ⟨gb332, 10, none⟩ = some (.bool a1_10) := (blk_cell BK332.out 10).trans rfl
   have hcz31_11 : w28.cell? ⟨gb332, 11, none⟩ = some (.string a1_11) := (blk_cell BK332.out 11).trans rfl
   have hcz31_12 : w28.cell? ⟨gb332, 12, none⟩ = some (.int .i64 a1_12) := (blk_cell BK332.out 12).trans rfl
   have hfz31_0 := fz_ BK332 0
   have hfz31_1 := fz_ BK332 1
   have hfz31_2 := fz_ BK332 2
   have hfz31_3 := fz_ BK332 3
   have hfz31_4 := fz_ BK332 4
   have hfz31_5 := fz_ BK332 5
   have hfz31_6 := fz_ BK332 6
   have hfz31_7 := fz_ BK332 7
   have hfz31_8 := fz_ BK332 8
   have hfz31_9 := fz_ BK332 9
   have hfz31_10 := fz_ BK332 10
   have hfz31_11 := fz_ BK332 11
   have hfz31_12 := fz_ BK332 12
   try go_wp2
   go_ret
   exact ⟨by first | rfl | (simp [errW_none, errW_some] <;> rfl) | (simp [*, errW_none, errW_some] <;> rfl), bb2_ HB GE331 GE332⟩
 ·rw [if_neg c8] at H
  have c8b0 : (a0_6 == a1_6) = false := beq_eq_false_iff_ne.mpr c8
  have c8b1 : (a0_6 != a1_6) = true := bne_iff_ne.mpr c8
  by_cases c32 : a0_7 = a1_7
  ·rw [if_pos c32] at H
   have c32b0 : (a0_7 == a1_7) = true := beq_iff_eq.mpr c32
   have c32b1 : (a0_7 != a1_7) = false := bne_eq_false_iff_eq.mpr c32
   clear c32
   obtain rfl := Option.some.inj H
   go_enter Try.func28, Try.ntmps28
   try go_wp2_with (first | ((with_reducible refine gate_dst (N := 2) rfl ?_); refine box_event ?hg (N := 2) ?hd (cs := #[.int .i64 a0_0, .int .i64 a0_1, .int .i64 a0_2, .int .i64 a0_3, .int .i64 a0_4, .bool a0_5, .int .i64 a0_6, .int .i64 a0_7, .int .i64 a0_8, .int .i64 a0_9, .bool a0_10, .string a0_11, .int .i64 a0_12]) (t := 47) ?hr ?_; (case hd => rfl); (case hg => rfl); (case hr => first | (go_simp; done) | (go_simp; rfl)); intro gb331 hg w33 hbox hb; have n0_ := Aside0.mk (bt_ HB hb); have n1_ := Aside0.mk (hbox); have n2_ := gz_ hg HB; have n3_ := gz_ hg HB; clear HB; have HB := n0_; have BK331 := n1_; have GW331 := n2_; have GE331 := n3_; clear n0_ n1_ n2_ n3_; clear hb hbox hg) | ((with_reducible refine gate_dst (N := 3) rfl ?_); refine box_event ?hg (N := 3) ?hd (cs := #[.int .i64 a1_0, .int .i64 a1_1, .int .i64 a1_2, .int .i64 a1_3, .int .i64 a1_4, .bool a1_5, .int .i64 a1_6, .int .i64 a1_7, .int .i64 a1_8, .int .i64 a1_9, .bool a1_10, .string a1_11, .int .i64 a1_12]) (t := 47) ?hr ?_; (case hd => rfl); (case hg => rfl); (case hr => first | (go_simp; done) | (go_simp; rfl)); intro gb332 hg w34 hbox hb; have n0_ := Aside0.mk (lb_ BK331 hb); have n1_ := Aside0.mk (below_step (bb1_ HB GE331) hb); have n2_ := Aside0.mk (hbox); have n3_ := gy_ hg (bb1_ HB GE331); have n4_ := gy_ hg (bb1_ HB GE331); have n5_ := nl_ hg BK331; have n6_ := ng_ hg BK331; clear BK331; clear HB; have BK331 := n0_; have HB := n1_; have BK332 := n2_; have GW332 := n3_; have GE332 := n4_; have NB331_332 := n5_; have NB332_331 := n6_; clear n0_ n1_ n2_ n3_ n4_ n5_ n6_; clear hb hbox hg))
   have n0_ := Aside0.mk (blk_drew BK331.out)
   have n1_ := Aside0.mk (blk_drew BK332.out)
   have n2_ := Aside0.mk (below_drew1 HB.out)
   clear BK331
   clear BK332
   clear HB
   have BK331 := n0_
   have BK332 := n1_
   have HB := n2_
   clear n0_ n1_ n2_
   refine start_ (n := 20) (S := fun w' => w'.cell? ⟨gb331, 0, none⟩ = some (.int .i64 a0_0) ∧ w'.cell? ⟨gb331, 1, none⟩ = some (.int .i64 a0_1) ∧ w'.cell? ⟨gb331, 2, none⟩ = some (.int .i64 a0_2) ∧ w'.cell? ⟨gb331, 3, none⟩ = some (.int .i64 a0_3) ∧ w'.cell? ⟨gb331, 4, none⟩ = some (.int .i64 a0_4) ∧ w'.cell? ⟨gb331, 5, none⟩ = some (.bool a0_5) ∧ w'.cell? ⟨gb331, 6, none⟩ = some (.int .i64 a0_6) ∧ w'.cell? ⟨gb331, 7, none⟩ = some (.int .i64 a0_7) ∧ w'.cell? ⟨gb331, 8, none⟩ = some (.int .i64 a0_8) ∧ w'.cell? ⟨gb331, 9, none⟩ = some (.int .i64 a0_9) ∧ w'.cell? ⟨gb331, 10, none⟩ = some (.bool a0_10) ∧ w'.cell? ⟨gb331, 11, none⟩ = some (.string a0_11) ∧ w'.cell? ⟨gb331, 12, none⟩ = some (.int .i64 a0_12) ∧ w'.cell? ⟨gb332, 0, none⟩ = some (.int .i64 a1_0) ∧ w'.cell? ⟨gb332, 1, none⟩ = some (.int .i64 a1_1) ∧ w'.cell? ⟨gb332, 2, none⟩ = some (.int .i64 a1_2) ∧ w'.cell? ⟨gb332, 3, none⟩ = some (.int .i64 a1_3) ∧ w'.cell? ⟨gb332, 4, none⟩ = some (.int .i64 a1_4) ∧ w'.cell? ⟨gb332, 5, none⟩ = some (.bool a1_5) ∧ w'.cell? ⟨gb332, 6, none⟩ = some (.int .i64 a1_6) ∧ w'.cell? ⟨gb332, 7, none⟩ = some (.int .i64 a1_7) ∧ w'.cell? ⟨gb332, 8, none⟩ = some (.int .i64 a1_8) ∧ w'.cell? ⟨gb332, 9, none⟩ = some (.int .i64 a1_9) ∧ w'.cell? ⟨gb332, 10, none⟩ = some (.bool a1_10) ∧ w'.cell? ⟨gb332, 11, none⟩ = some (.string a1_11) ∧ w'.cell? ⟨gb332, 12, none⟩ = some (.int .i64 a1_12)) (ds := []) #[false, false, false, false, false, false, false, false, false, false, false, false, false, false, false, false, false, false, false, false] (by kernel_rfl) rfl rfl ⟨(blk_cell BK331.out 0).trans rfl, (blk_cell BK331.out 1).trans rfl, (blk_cell BK331.out 2).trans rfl, (blk_cell BK331.out 3).trans rfl, (blk_cell BK331.out 4).trans rfl, (blk_cell BK331.out 5).trans rfl, (blk_cell BK331.out 6).trans rfl, (blk_cell BK331.out 7).trans rfl, (blk_cell BK331.out 8).trans rfl, (blk_cell BK331.out 9).trans rfl, (blk_cell BK331.out 10).trans rfl, (blk_cell BK331.out 11).trans rfl, (blk_cell BK331.out 12).trans rfl, (blk_cell BK332.out 0).trans rfl, (blk_cell BK332.out 1).trans rfl, (blk_cell BK332.out 2).trans rfl, (blk_cell BK332.out 3).trans rfl, (blk_cell BK332.out 4).trans rfl, (blk_cell BK332.out 5).trans rfl, (blk_cell BK332.out 6).trans rfl, (blk_cell BK332.out 7).trans rfl, (blk_cell BK332.out 8).trans rfl, (blk_cell BK332.out 9).trans rfl, (blk_cell BK332.out 10).trans rfl, (blk_cell BK332.out 11).trans rfl, (blk_cell BK332.out 12).trans rfl⟩ (fun hHeld => ?_); refine with_tabW impl_Hand_distance.tab1 impl_Hand_distance.bits1 (fun HT_ HW_ => ?_)
   generalize w34.drew = w35 at BK331 BK332 HB hHeld ⊢
   refine pu_ (i := 0) (N := some 6) (v := ?_) (a' := ?_) #[true, false, false, false, false, false, false, false, false, false, false, false, false, false, false, false, false, false, false, false] rfl rfl (Or.inl ⟨by rfl, ?_⟩) ?_ ?_
   rotate_left
   ·intro w'
    go_simp
    with_reducible rfl
   rotate_left
   ·simp only [Act.put, sA_, sB_, sC_, i64_w, i32_w]
    rfl
   refine pu_ (i := 2) (N := some 8) (v := ?_) (a' := ?_) #[true, false, true, false, false, false, false, false, false, false, false, false, false, false, false, false, false, false, false, false] rfl rfl (Or.inl ⟨by rfl, ?_⟩) ?_ ?_
   rotate_left
   ·intro w'
    go_simp
    with_reducible rfl
   rotate_left
   ·simp only [Act.put, sA_, sB_, sC_, i64_w, i32_w]
    rfl
   refine pu_ (i := 5) (N := some 11) (v := ?_) (a' := ?_) #[true, false, true, false, false, true, false, false, false, false, false, false, false, false, false, false, false, false, false, false] rfl rfl (Or.inl ⟨by rfl, ?_⟩) ?_ ?_
   rotate_left
   ·intro w'
    go_simp
    with_reducible rfl
   rotate_left
   ·simp only [Act.put, sA_, sB_, sC_, i64_w, i32_w]
    rfl
   refine pu_ (i := 7) (N := some 13) (v := ?_) (a' := ?_) #[true, false, true, false, false, true, false, true, false, false, false, false, false, false, false, false, false, false, false, false] rfl rfl (Or.inl ⟨by rfl, ?_⟩) ?_ ?_
   rotate_left
   ·intro w'
    go_simp
    with_reducible rfl
   rotate_left
   ·simp only [Act.put, sA_, sB_, sC_, i64_w, i32_w]
    rfl
   refine pu_ (i := 11) (N := some 17) (v := ?_) (a' := ?_) #[true, false, true, false, false, true, false, true, false, false, false, true, false, false, false, false, false, false, false, false] rfl rfl (Or.inl ⟨by rfl, ?_⟩) ?_ ?_
   rotate_left
   ·intro w'
    go_simp
    with_reducible rfl
   rotate_left
   ·simp only [Act.put, sA_, sB_, sC_, i64_w, i32_w]
    rfl
   refine pu_ (i := 14) (N := some 20) (v := ?_) (a' := ?_) #[true, false, true, false, false, true, false, true, false, false, false, true, false, false, true, false, false, false, false, false] rfl rfl (Or.inl ⟨by rfl, ?_⟩) ?_ ?_
   rotate_left
   ·intro w'
    go_simp
    with_reducible rfl
   rotate_left
   ·simp only [Act.put, sA_, sB_, sC_, i64_w, i32_w]
    rfl
   refine take_ (i := 1) (N := some 7) (v := ?_) (a' := ?_) #[true, true, true, false, false, true, false, true, false, false, false, true, false, false, true, false, false, false, false, false] rfl rfl (take_ofW HT_.out HW_.out (by kernel_rfl)) (fun _ _ _ h => h) (Or.inl ⟨by rfl, ?_⟩) hHeld ?_ ?_
   rotate_left
   ·rintro w' ⟨s0, s1, s2, s3, s4, s5, s6, s7, s8, s9, s10, s11, s12, s13, s14, s15, s16, s17, s18, s19, s20, s21, s22, s23, s24, s25⟩
    go_simp
    with_reducible rfl
   rotate_left
   ·simp only [Act.put, sA_, sB_, sC_, i64_w, i32_w]
    rfl
   refine take_ (i := 3) (N := some 9) (v := ?_) (a' := ?_) #[true, true, true, true, false, true, false, true, false, false, false, true, false, false, true, false, false, false, false, false] rfl rfl (take_ofW HT_.out HW_.out (by kernel_rfl)) (fun _ _ _ h => h) (Or.inl ⟨by rfl, ?_⟩) hHeld ?_ ?_
   rotate_left
   ·rintro w' ⟨s0, s1, s2, s3, s4, s5, s6, s7, s8, s9, s10, s11, s12, s13, s14, s15, s16, s17, s18, s19, s20, s21, s22, s23, s24, s25⟩
    go_simp
    with_reducible rfl
   rotate_left
   ·simp only [Act.put, sA_, sB_, sC_, i64_w, i32_w]
    rfl
   refine take_ (i := 6) (N := some 12) (v := ?_) (a' := ?_) #[true, true, true, true, false, true, true, true, false, false, false, true, false, false, true, false, false, false, false, false] rfl rfl (take_ofW HT_.out HW_.out (by kernel_rfl)) (fun _ _ _ h => h) (Or.inl ⟨by rfl, ?_⟩) hHeld ?_ ?_
   rotate_left
   ·rintro w' ⟨s0, s1, s2, s3, s4, s5, s6, s7, s8, s9, s10, s11, s12, s13, s14, s15, s16, s17, s18, s19, s20, s21, s22, s23, s24, s25⟩
    go_simp
    with_reducible rfl
   rotate_left
   ·simp only [Act.put, sA_, sB_, sC_, i64_w, i32_w]
    rfl
   refine take_ (i := 8) (N := some 14) (v := ?_) (a' := ?_) #[true, true, true, true, false, true, true, true, true, false, false, true, false, false, true, false, false, false, false, false] rfl rfl (take_ofW HT_.out HW_.out (by kernel_rfl)) (fun _ _ _ h => h) (Or.inl ⟨by rfl, ?_⟩) hHeld ?_ ?_
   rotate_left
   ·rintro w' ⟨s0, s1, s2, s3, s4, s5, s6, s7, s8, s9, s10, s11, s12, s13, s14, s15, s16, s17, s18, s19, s20, s21, s22, s23, s24, s25⟩
    go_simp
    with_reducible rfl
   rotate_left
   ·simp only [Act.put, sA_, sB_, sC_, i64_w, i32_w]
    rfl
   refine take_ (i := 12) (N := some 18) (v := ?_) (a' := ?_) #[true, true, true, true, false, true, true, true, true, false, false, true, true, false, true, false, false, false, false, false] rfl rfl (take_ofW HT_.out HW_.out (by kernel_rfl)) (fun _ _ _ h => h) (Or.inl ⟨by rfl, ?_⟩) hHeld ?_ ?_
   rotate_left
   ·rintro w' ⟨s0, s1, s2, s3, s4, s5, s6, s7, s8, s9, s10, s11, s12, s13, s14, s15, s16, s17, s18, s19, s20, s21, s22, s23, s24, s25⟩
    go_simp
    with_reducible rfl
   rotate_left
   ·simp only [Act.put, sA_, sB_, sC_, i64_w, i32_w]
    rfl
   refine take_ (i := 15) (N := some 21) (v := ?_) (a' := ?_) #[true, true, true, true, false, true, true, true, true, false, false, true, true, false, true, true, false, false, false, false] rfl rfl (take_ofW HT_.out HW_.out (by kernel_rfl)) (fun _ _ _ h => h) (Or.inl ⟨by rfl, ?_⟩) hHeld ?_ ?_
   rotate_left
   ·rintro w' ⟨s0, s1, s2, s3, s4, s5, s6, s7, s8, s9, s10, s11, s12, s13, s14, s15, s16, s17, s18, s19, s20, s21, s22, s23, s24, s25⟩
    go_simp
    with_reducible rfl
   rotate_left
   ·simp only [Act.put, sA_, sB_, sC_, i64_w, i32_w]
    rfl
   refine one_ (i := 4) (N := some 10) #[true, true, true, true, true, true, true, true, true, false, false, true, true, false, true, true, false, false, false, false] rfl rfl (one_of HT_.out (by kernel_rfl)) (by decide) (fun K hK => ?_)
   refine goes_ Try.func44 (by kernel_rfl) rfl #[.agg #[.int .i64 a0_0, .int .i64 a0_1, .int .i64 a0_2, .int .i64 a0_3, .int .i64 a0_4, .bool a0_5], .agg #[.int .i64 a1_0, .int .i64 a1_1, .int .i64 a1_2, .int .i64 a1_3, .int .i64 a1_4, .bool a1_5]] (by rfl) rfl rfl args_ ?_
   with_reducible refine (impl_Shape_distance.calls k a0_0 a0_1 a0_2 a0_3 a0_4 a0_5 a1_0 a1_1 a1_2 a1_3 a1_4 a1_5 t333 _ A3.out).mono ?_
   rintro e w36 ⟨rfl, hb⟩
   refine ⟨_, rfl, ?_⟩
   have n0_ := Aside0.mk (lb_ BK331 hb)
   have n1_ := Aside0.mk (lb_ BK332 hb)
   have n2_ := Aside0.mk (below_step (bb2_ HB GE331 GE332) hb)
   clear BK331
   clear BK332
   clear HB
   have BK331 := n0_
   have BK332 := n1_
   have HB := n2_
   clear n0_ n1_ n2_
   (try clear hb)
   (try clear hb2)
   (try clear hk)
   (try clear hi)
   refine hK.out _ _ ⟨(blk_cell BK331.out 0).trans rfl, (blk_cell BK331.out 1).trans rfl, (blk_cell BK331.out 2).trans rfl, (blk_cell BK331.out 3).trans rfl, (blk_cell BK331.out 4).trans rfl, (blk_cell BK331.out 5).trans rfl, (blk_cell BK331.out 6).trans rfl, (blk_cell BK331.out 7).trans rfl, (blk_cell BK331.out 8).trans rfl, (blk_cell BK331.out 9).trans rfl, (blk_cell BK331.out 10).trans rfl, (blk_cell BK331.out 11).trans rfl, (blk_cell BK331.out 12).trans rfl, (blk_cell BK332.out 0).trans rfl, (blk_cell BK332.out 1).trans rfl, (blk_cell BK332.out 2).trans rfl, (blk_cell BK332.out 3).trans rfl, (blk_cell BK332.out 4).trans rfl, (blk_cell BK332.out 5).trans rfl, (blk_cell BK332.out 6).trans rfl, (blk_cell BK332.out 7).trans rfl, (blk_cell BK332.out 8).trans rfl, (blk_cell BK332.out 9).trans rfl, (blk_cell BK332.out 10).trans rfl, (blk_cell BK332.out 11).trans rfl, (blk_cell BK332.out 12).trans rfl⟩ (fun hHeld => ?_)
   clear hK K
   refine norm_ (a' := ?_) ?_ ?_
   rotate_left
   ·show Act.put _ (some 10) _ = _
    simp only [Act.put, sA_, sB_, sC_, i64_w, i32_w]
    rfl
   refine one_ (i := 9) (N := some 15) #[true, true, true, true, true, true, true, true, true, true, false, true, true, false, true, true, false, false, false, false] rfl rfl (one_of HT_.out (by kernel_rfl)) (by decide) (fun K hK => ?_)
   refine goes_ Try.func45 (by kernel_rfl) rfl #[.agg #[.int .i64 a0_8, .int .i64 a0_9, .bool a0_10], .agg #[.int .i64 a1_8, .int .i64 a1_9, .bool a1_10]] (by rfl) rfl rfl args_ ?_
   with_reducible refine (impl_Place_distance.calls a0_8 a0_9 a0_10 a1_8 a1_9 a1_10 t334 _ A4.out).mono ?_
   rintro e w37 ⟨rfl, hb⟩
   refine ⟨_, rfl, ?_⟩
   have n0_ := Aside0.mk (lb_ BK331 hb)
   have n1_ := Aside0.mk (lb_ BK332 hb)
   have n2_ := Aside0.mk (below_step (bb2_ HB GE331 GE332) hb)
   clear BK331
   clear BK332
   clear HB
   have BK331 := n0_
   have BK332 := n1_
   have HB := n2_
   clear n0_ n1_ n2_
   (try clear hb)
   (try clear hb2)
   (try clear hk)
   (try clear hi)
   refine hK.out _ _ ⟨(blk_cell BK331.out 0).trans rfl, (blk_cell BK331.out 1).trans rfl, (blk_cell BK331.out 2).trans rfl, (blk_cell BK331.out 3).trans rfl, (blk_cell BK331.out 4).trans rfl, (blk_cell BK331.out 5).trans rfl, (blk_cell BK331.out 6).trans rfl, (blk_cell BK331.out 7).trans rfl, (blk_cell BK331.out 8).trans rfl, (blk_cell BK331.out 9).trans rfl, (blk_cell BK331.out 10).trans rfl, (blk_cell BK331.out 11).trans rfl, (blk_cell BK331.out 12).trans rfl, (blk_cell BK332.out 0).trans rfl, (blk_cell BK332.out 1).trans rfl, (blk_cell BK332.out 2).trans rfl, (blk_cell BK332.out 3).trans rfl, (blk_cell BK332.out 4).trans rfl, (blk_cell BK332.out 5).trans rfl, (blk_cell BK332.out 6).trans rfl, (blk_cell BK332.out 7).trans rfl, (blk_cell BK332.out 8).trans rfl, (blk_cell BK332.out 9).trans rfl, (blk_cell BK332.out 10).trans rfl, (blk_cell BK332.out 11).trans rfl, (blk_cell BK332.out 12).trans rfl⟩ (fun hHeld => ?_)
   clear hK K
   refine norm_ (a' := ?_) ?_ ?_
   rotate_left
   ·show Act.put _ (some 15) _ = _
    simp only [Act.put, sA_, sB_, sC_, i64_w, i32_w]
    rfl
   refine pu_ (i := 10) (N := some 16) (v := ?_) (a' := ?_) #[true, true, true, true, true, true, true, true, true, true, true, true, true, false, true, true, false, false, false, false] rfl rfl (Or.inl ⟨by rfl, ?_⟩) ?_ ?_
   rotate_left
   ·intro w'
    go_simp
    with_reducible rfl
   rotate_left
   ·simp only [Act.put, sA_, sB_, sC_, i64_w, i32_w]
    rfl
   refine one_ (i := 13) (N := some 19) #[true, true, true, true, true, true, true, true, true, true, true, true, true, true, true, true, false, false, false, false] rfl rfl (one_of HT_.out (by kernel_rfl)) (by decide) (fun K hK => ?_)
   refine goes_ Try.func19 (by kernel_rfl) rfl #[.agg #[.string a0_11, .int .i64 a0_12]] (by rfl) rfl rfl args_ ?_
   with_reducible refine (impl_Move_all.calls a0_11 a0_12 t335 _ A5.out).mono ?_
   rintro e w38 ⟨rfl, hb⟩
   refine ⟨_, rfl, ?_⟩
   have n0_ := Aside0.mk (lb_ BK331 hb)
   have n1_ := Aside0.mk (lb_ BK332 hb)
   have n2_ := Aside0.mk (below_step (bb2_ HB GE331 GE332) hb)
   clear BK331
   clear BK332
   clear HB
   have BK331 := n0_
   have BK332 := n1_
   have HB := n2_
   clear n0_ n1_ n2_
   (try clear hb)
   (try clear hb2)
   (try clear hk)
   (try clear hi)
   refine hK.out _ _ ⟨(blk_cell BK331.out 0).trans rfl, (blk_cell BK331.out 1).trans rfl, (blk_cell BK331.out 2).trans rfl, (blk_cell BK331.out 3).trans rfl, (blk_cell BK331.out 4).trans rfl, (blk_cell BK331.out 5).trans rfl, (blk_cell BK331.out 6).trans rfl, (blk_cell BK331.out 7).trans rfl, (blk_cell BK331.out 8).trans rfl, (blk_cell BK331.out 9).trans rfl, (blk_cell BK331.out 10).trans rfl, (blk_cell BK331.out 11).trans rfl, (blk_cell BK331.out 12).trans rfl, (blk_cell BK332.out 0).trans rfl, (blk_cell BK332.out 1).trans rfl, (blk_cell BK332.out 2).trans rfl, (blk_cell BK332.out 3).trans rfl, (blk_cell BK332.out 4).trans rfl, (blk_cell BK332.out 5).trans rfl, (blk_cell BK332.out 6).trans rfl, (blk_cell BK332.out 7).trans rfl, (blk_cell BK332.out 8).trans rfl, (blk_cell BK332.out 9).trans rfl, (blk_cell BK332.out 10).trans rfl, (blk_cell BK332.out 11).trans rfl, (blk_cell BK332.out 12).trans rfl⟩ (fun hHeld => ?_)
   clear hK K
   refine norm_ (a' := ?_) ?_ ?_
   rotate_left
   ·show Act.put _ (some 19) _ = _
    simp only [Act.put, sA_, sB_, sC_, i64_w, i32_w]
    rfl
   refine one_ (i := 16) (N := some 22) #[true, true, true, true, true, true, true, true, true, true, true, true, true, true, true, true, true, false, false, false] rfl rfl (one_of HT_.out (by kernel_rfl)) (by decide) (fun K hK => ?_)
   refine goes_ Try.func19 (by kernel_rfl) rfl #[.agg #[.string a1_11, .int .i64 a1_12]] (by rfl) rfl rfl args_ ?_
   with_reducible refine (impl_Move_all.calls a1_11 a1_12 t336 _ A6.out).mono ?_
   rintro e w39 ⟨rfl, hb⟩
   refine ⟨_, rfl, ?_⟩
   have n0_ := Aside0.mk (lb_ BK331 hb)
   have n1_ := Aside0.mk (lb_ BK332 hb)
   have n2_ := Aside0.mk (below_step (bb2_ HB GE331 GE332) hb)
   clear BK331
   clear BK332
   clear HB
   have BK331 := n0_
   have BK332 := n1_
   have HB := n2_
   clear n0_ n1_ n2_
   (try clear hb)
   (try clear hb2)
   (try clear hk)
   (try clear hi)
   refine hK.out _ _ ⟨(blk_cell BK331.out 0).trans rfl, (blk_cell BK331.out 1).trans rfl, (blk_cell BK331.out 2).trans rfl, (blk_cell BK331.out 3).trans rfl, (blk_cell BK331.out 4).trans rfl, (blk_cell BK331.out 5).trans rfl, (blk_cell BK331.out 6).trans rfl, (blk_cell BK331.out 7).trans rfl, (blk_cell BK331.out 8).trans rfl, (blk_cell BK331.out 9).trans rfl, (blk_cell BK331.out 10).trans rfl, (blk_cell BK331.out 11).trans rfl, (blk_cell BK331.out 12).trans rfl, (blk_cell BK332.out 0).trans rfl, (blk_cell BK332.out 1).trans rfl, (blk_cell BK332.out 2).trans rfl, (blk_cell BK332.out 3).trans rfl, (blk_cell BK332.out 4).trans rfl, (blk_cell BK332.out 5).trans rfl, (blk_cell BK332.out 6).trans rfl, (blk_cell BK332.out 7).trans rfl, (blk_cell BK332.out 8).trans rfl, (blk_cell BK332.out 9).trans rfl, (blk_cell BK332.out 10).trans rfl, (blk_cell BK332.out 11).trans rfl, (blk_cell BK332.out 12).trans rfl⟩ (fun hHeld => ?_)
   clear hK K
   refine norm_ (a' := ?_) ?_ ?_
   rotate_left
   ·show Act.put _ (some 22) _ = _
    simp only [Act.put, sA_, sB_, sC_, i64_w, i32_w]
    rfl
   refine one_ (i := 17) (N := some 23) #[true, true, true, true, true, true, true, true, true, true, true, true, true, true, true, true, true, true, false, false] rfl rfl (one_of HT_.out (by kernel_rfl)) (by decide) (fun K hK => ?_)
   refine goes_ Try.func21 (by kernel_rfl) rfl #[.string t335, .string t336] (by rfl) rfl rfl args_ ?_
   with_reducible refine (impl_stepDistance.calls k t335 t336 t337 _ A7.out).mono ?_
   rintro e w40 ⟨rfl, hb⟩
   refine ⟨_, rfl, ?_⟩
   have n0_ := Aside0.mk (lb_ BK331 hb)
   have n1_ := Aside0.mk (lb_ BK332 hb)
   have n2_ := Aside0.mk (below_step (bb2_ HB GE331 GE332) hb)
   clear BK331
   clear BK332
   clear HB
   have BK331 := n0_
   have BK332 := n1_
   have HB := n2_
   clear n0_ n1_ n2_
   (try clear hb)
   (try clear hb2)
   (try clear hk)
   (try clear hi)
   refine hK.out _ _ ⟨(blk_cell BK331.out 0).trans rfl, (blk_cell BK331.out 1).trans rfl, (blk_cell BK331.out 2).trans rfl, (blk_cell BK331.out 3).trans rfl, (blk_cell BK331.out 4).trans rfl, (blk_cell BK331.out 5).trans rfl, (blk_cell BK331.out 6).trans rfl, (blk_cell BK331.out 7).trans rfl, (blk_cell BK331.out 8).trans rfl, (blk_cell BK331.out 9).trans rfl, (blk_cell BK331.out 10).trans rfl, (blk_cell BK331.out 11).trans rfl, (blk_cell BK331.out 12).trans rfl, (blk_cell BK332.out 0).trans rfl, (blk_cell BK332.out 1).trans rfl, (blk_cell BK332.out 2).trans rfl, (blk_cell BK332.out 3).trans rfl, (blk_cell BK332.out 4).trans rfl, (blk_cell BK332.out 5).trans rfl, (blk_cell BK332.out 6).trans rfl, (blk_cell BK332.out 7).trans rfl, (blk_cell BK332.out 8).trans rfl, (blk_cell BK332.out 9).trans rfl, (blk_cell BK332.out 10).trans rfl, (blk_cell BK332.out 11).trans rfl, (blk_cell BK332.out 12).trans rfl⟩ (fun hHeld => ?_)
   clear hK K
   refine norm_ (a' := ?_) ?_ ?_
   rotate_left
   ·show Act.put _ (some 23) _ = _
    simp only [Act.put, sA_, sB_, sC_, i64_w, i32_w]
    rfl
   refine pu_ (i := 18) (N := some 24) (v := ?_) (a' := ?_) #[true, true, true, true, true, true, true, true, true, true, true, true, true, true, true, true, true, true, true, false] rfl rfl (Or.inl ⟨by rfl, ?_⟩) ?_ ?_
   rotate_left
   ·intro w'
    go_simp
    with_reducible rfl
   rotate_left
   ·simp only [Act.put, sA_, sB_, sC_, i64_w, i32_w]
    rfl
   refine pu_ (i := 19) (N := some 5) (v := ?_) (a' := ?_) #[true, true, true, true, true, true, true, true, true, true, true, true, true, true, true, true, true, true, true, true] rfl rfl (Or.inl ⟨by rfl, ?_⟩) ?_ ?_
   rotate_left
   ·intro w'
    go_simp
    with_reducible rfl
   rotate_left
   ·simp only [Act.put, sA_, sB_, sC_, i64_w, i32_w]
    rfl
   refine done_ (done_of HT_.out (by kernel_rfl)) ?_
   have hnb41 := NB331_332.out
   have hnc41 := NB332_331.out
   have hcz42_0 := cz0_ BK331
   have hcz42_1 := cz1_ BK331
   have hcz42_2 := cz2_ BK331
   have hcz42_3 := cz3_ BK331
   have hcz42_4 : w40.cell? ⟨gb331, 4, none⟩ = some (.int .i64 a0_4) := (blk_cell BK331.out 4).trans rfl
   have hcz42_5 : w40.cell? ⟨gb331, 5, none⟩ = some (.bool a0_5) := (blk_cell BK331.out 5).trans rfl
   have hcz42_6 : w40.cell? ⟨gb331, 6, none⟩ = some (.int .i64 a0_6) := (blk_cell BK331.out 6).trans rfl
   have hcz42_7 : w40.cell? ⟨gb331, 7, none⟩ = some (.int .i64 a0_7) := (blk_cell BK331.out 7).trans rfl
   have hcz42_8 : w40.cell? ⟨gb331, 8, none⟩ = some (.int .i64 a0_8) := (blk_cell BK331.out 8).trans rfl
   have hcz42_9 : w40.cell? ⟨gb331, 9, none⟩ = some (.int .i64 a0_9) := (blk_cell BK331.out 9).trans rfl
   have hcz42_10 : w40.cell? ⟨gb331, 10, none⟩ = some (.bool a0_10) := (blk_cell BK331.out 10).trans rfl
   have hcz42_11 : w40.cell? ⟨gb331, 11, none⟩ = some (.string a0_11) := (blk_cell BK331.out 11).trans rfl
   have hcz42_12 : w40.cell? ⟨gb331, 12, none⟩ = some (.int .i64 a0_12) := (blk_cell BK331.out 12).trans rfl
   have hfz42_0 := fz_ BK331 0
   have hfz42_1 := fz_ BK331 1
   have hfz42_2 := fz_ BK331 2
   have hfz42_3 := fz_ BK331 3
   have hfz42_4 := fz_ BK331 4
   have hfz42_5 := fz_ BK331 5
   have hfz42_6 := fz_ BK331 6
   have hfz42_7 := fz_ BK331 7
   have hfz42_8 := fz_ BK331 8
   have hfz42_9 := fz_ BK331 9
   have hfz42_10 := fz_ BK331 10
   have hfz42_11 := fz_ BK331 11
   have hfz42_12 := fz_ BK331 12
   have hcz43_0 := cz0_ BK332
   have hcz43_1 := cz1_ BK332
   have hcz43_2 := cz2_ BK332
   have hcz43_3 := cz3_ BK332
   have hcz43_4 : w40.cell? ⟨gb332, 4, none⟩ = some (.int .i64 a1_4) := (blk_cell BK332.out 4).trans rfl
   have hcz43_5 : w40.cell? ⟨gb332, 5, none⟩ = some (.bool a1_5) := (blk_cell BK332.out 5).trans rfl
   have hcz43_6 : w40.cell? ⟨gb332, 6, none⟩ = some (.int .i64 a1_6) := (blk_cell BK332.out 6).trans rfl
   have hcz43_7 : w40.cell? ⟨gb332, 7, none⟩ = some (.int .i64 a1_7) := (blk_cell BK332.out 7).trans rfl
   have hcz43_8 : w40.cell? ⟨gb332, 8, none⟩ = some (.int .i64 a1_8) := (blk_cell BK332.out 8).trans rfl
   have hcz43_9 : w40.cell? ⟨gb332, 9, none⟩ = some (.int .i64 a1_9) := (blk_cell BK332.out 9).trans rfl
   have hcz43_10 : w40.cell? ⟨gb332, 10, none⟩ = some (.bool a1_10) := (blk_cell BK332.out 10).trans rfl
   have hcz43_11 : w40.cell? ⟨gb332, 11, none⟩ = some (.string a1_11) := (blk_cell BK332.out 11).trans rfl
   have hcz43_12 : w40.cell? ⟨gb332, 12, none⟩ = some (.int .i64 a1_12) := (blk_cell BK332.out 12).trans rfl
   have hfz43_0 := fz_ BK332 0
   have hfz43_1 := fz_ BK332 1
   have hfz43_2 := fz_ BK332 2
   have hfz43_3 := fz_ BK332 3
   have hfz43_4 := fz_ BK332 4
   have hfz43_5 := fz_ BK332 5
   have hfz43_6 := fz_ BK332 6
   have hfz43_7 := fz_ BK332 7
   have hfz43_8 := fz_ BK332 8
   have hfz43_9 := fz_ BK332 9
   have hfz43_10 := fz_ BK332 10
   have hfz43_11 := fz_ BK332 11
   have hfz43_12 := fz_ BK332 12
   try go_wp2
   go_ret
   exact ⟨by first | rfl | (simp [errW_none, errW_some] <;> rfl) | (simp [*, errW_none, errW_some] <;> rfl), bb2_ HB GE331 GE332⟩
  ·rw [if_neg c32] at H
   have c32b0 : (a0_7 == a1_7) = false := beq_eq_false_iff_ne.mpr c32
   have c32b1 : (a0_7 != a1_7) = true := bne_iff_ne.mpr c32
   obtain rfl := Option.some.inj H
   go_enter Try.func28, Try.ntmps28
   try go_wp2_with (first | ((with_reducible refine gate_dst (N := 2) rfl ?_); refine box_event ?hg (N := 2) ?hd (cs := #[.int .i64 a0_0, .int .i64 a0_1, .int .i64 a0_2, .int .i64 a0_3, .int .i64 a0_4, .bool a0_5, .int .i64 a0_6, .int .i64 a0_7, .int .i64 a0_8, .int .i64 a0_9, .bool a0_10, .string a0_11, .int .i64 a0_12]) (t := 47) ?hr ?_; (case hd => rfl); (case hg => rfl); (case hr => first | (go_simp; done) | (go_simp; rfl)); intro gb331 hg w44 hbox hb; have n0_ := Aside0.mk (bt_ HB hb); have n1_ := Aside0.mk (hbox); have n2_ := gz_ hg HB; have n3_ := gz_ hg HB; clear HB; have HB := n0_; have BK331 := n1_; have GW331 := n2_; have GE331 := n3_; clear n0_ n1_ n2_ n3_; clear hb hbox hg) | ((with_reducible refine gate_dst (N := 3) rfl ?_); refine box_event ?hg (N := 3) ?hd (cs := #[.int .i64 a1_0, .int .i64 a1_1, .int .i64 a1_2, .int .i64 a1_3, .int .i64 a1_4, .bool a1_5, .int .i64 a1_6, .int .i64 a1_7, .int .i64 a1_8, .int .i64 a1_9, .bool a1_10, .string a1_11, .int .i64 a1_12]) (t := 47) ?hr ?_; (case hd => rfl); (case hg => rfl); (case hr => first | (go_simp; done) | (go_simp; rfl)); intro gb332 hg w45 hbox hb; have n0_ := Aside0.mk (lb_ BK331 hb); have n1_ := Aside0.mk (below_step (bb1_ HB GE331) hb); have n2_ := Aside0.mk (hbox); have n3_ := gy_ hg (bb1_ HB GE331); have n4_ := gy_ hg (bb1_ HB GE331); have n5_ := nl_ hg BK331; have n6_ := ng_ hg BK331; clear BK331; clear HB; have BK331 := n0_; have HB := n1_; have BK332 := n2_; have GW332 := n3_; have GE332 := n4_; have NB331_332 := n5_; have NB332_331 := n6_; clear n0_ n1_ n2_ n3_ n4_ n5_ n6_; clear hb hbox hg))
   have n0_ := Aside0.mk (blk_drew BK331.out)
   have n1_ := Aside0.mk (blk_drew BK332.out)
   have n2_ := Aside0.mk (below_drew1 HB.out)
   clear BK331
   clear BK332
   clear HB
   have BK331 := n0_
   have BK332 := n1_
   have HB := n2_
   clear n0_ n1_ n2_
   refine start_ (n := 20) (S := fun w' => w'.cell? ⟨gb331, 0, none⟩ = some (.int .i64 a0_0) ∧ w'.cell? ⟨gb331, 1, none⟩ = some (.int .i64 a0_1) ∧ w'.cell? ⟨gb331, 2, none⟩ = some (.int .i64 a0_2) ∧ w'.cell? ⟨gb331, 3, none⟩ = some (.int .i64 a0_3) ∧ w'.cell? ⟨gb331, 4, none⟩ = some (.int .i64 a0_4) ∧ w'.cell? ⟨gb331, 5, none⟩ = some (.bool a0_5) ∧ w'.cell? ⟨gb331, 6, none⟩ = some (.int .i64 a0_6) ∧ w'.cell? ⟨gb331, 7, none⟩ = some (.int .i64 a0_7) ∧ w'.cell? ⟨gb331, 8, none⟩ = some (.int .i64 a0_8) ∧ w'.cell? ⟨gb331, 9, none⟩ = some (.int .i64 a0_9) ∧ w'.cell? ⟨gb331, 10, none⟩ = some (.bool a0_10) ∧ w'.cell? ⟨gb331, 11, none⟩ = some (.string a0_11) ∧ w'.cell? ⟨gb331, 12, none⟩ = some (.int .i64 a0_12) ∧ w'.cell? ⟨gb332, 0, none⟩ = some (.int .i64 a1_0) ∧ w'.cell? ⟨gb332, 1, none⟩ = some (.int .i64 a1_1) ∧ w'.cell? ⟨gb332, 2, none⟩ = some (.int .i64 a1_2) ∧ w'.cell? ⟨gb332, 3, none⟩ = some (.int .i64 a1_3) ∧ w'.cell? ⟨gb332, 4, none⟩ = some (.int .i64 a1_4) ∧ w'.cell? ⟨gb332, 5, none⟩ = some (.bool a1_5) ∧ w'.cell? ⟨gb332, 6, none⟩ = some (.int .i64 a1_6) ∧ w'.cell? ⟨gb332, 7, none⟩ = some (.int .i64 a1_7) ∧ w'.cell? ⟨gb332, 8, none⟩ = some (.int .i64 a1_8) ∧ w'.cell? ⟨gb332, 9, none⟩ = some (.int .i64 a1_9) ∧ w'.cell? ⟨gb332, 10, none⟩ = some (.bool a1_10) ∧ w'.cell? ⟨gb332, 11, none⟩ = some (.string a1_11) ∧ w'.cell? ⟨gb332, 12, none⟩ = some (.int .i64 a1_12)) (ds := []) #[false, false, false, false, false, false, false, false, false, false, false, false, false, false, false, false, false, false, false, false] (by kernel_rfl) rfl rfl ⟨(blk_cell BK331.out 0).trans rfl, (blk_cell BK331.out 1).trans rfl, (blk_cell BK331.out 2).trans rfl, (blk_cell BK331.out 3).trans rfl, (blk_cell BK331.out 4).trans rfl, (blk_cell BK331.out 5).trans rfl, (blk_cell BK331.out 6).trans rfl, (blk_cell BK331.out 7).trans rfl, (blk_cell BK331.out 8).trans rfl, (blk_cell BK331.out 9).trans rfl, (blk_cell BK331.out 10).trans rfl, (blk_cell BK331.out 11).trans rfl, (blk_cell BK331.out 12).trans rfl, (blk_cell BK332.out 0).trans rfl, (blk_cell BK332.out 1).trans rfl, (blk_cell BK332.out 2).trans rfl, (blk_cell BK332.out 3).trans rfl, (blk_cell BK332.out 4).trans rfl, (blk_cell BK332.out 5).trans rfl, (blk_cell BK332.out 6).trans rfl, (blk_cell BK332.out 7).trans rfl, (blk_cell BK332.out 8).trans rfl, (blk_cell BK332.out 9).trans rfl, (blk_cell BK332.out 10).trans rfl, (blk_cell BK332.out 11).trans rfl, (blk_cell BK332.out 12).trans rfl⟩ (fun hHeld => ?_); refine with_tabW impl_Hand_distance.tab1 impl_Hand_distance.bits1 (fun HT_ HW_ => ?_)
   generalize w45.drew = w46 at BK331 BK332 HB hHeld ⊢
   refine pu_ (i := 0) (N := some 6) (v := ?_) (a' := ?_) #[true, false, false, false, false, false, false, false, false, false, false, false, false, false, false, false, false, false, false, false] rfl rfl (Or.inl ⟨by rfl, ?_⟩) ?_ ?_
   rotate_left
   ·intro w'
    go_simp
    with_reducible rfl
   rotate_left
   ·simp only [Act.put, sA_, sB_, sC_, i64_w, i32_w]
    rfl
   refine pu_ (i := 2) (N := some 8) (v := ?_) (a' := ?_) #[true, false, true, false, false, false, false, false, false, false, false, false, false, false, false, false, false, false, false, false] rfl rfl (Or.inl ⟨by rfl, ?_⟩) ?_ ?_
   rotate_left
   ·intro w'
    go_simp
    with_reducible rfl
   rotate_left
   ·simp only [Act.put, sA_, sB_, sC_, i64_w, i32_w]
    rfl
   refine pu_ (i := 5) (N := some 11) (v := ?_) (a' := ?_) #[true, false, true, false, false, true, false, false, false, false, false, false, false, false, false, false, false, false, false, false] rfl rfl (Or.inl ⟨by rfl, ?_⟩) ?_ ?_
   rotate_left
   ·intro w'
    go_simp
    with_reducible rfl
   rotate_left
   ·simp only [Act.put, sA_, sB_, sC_, i64_w, i32_w]
    rfl
   refine pu_ (i := 7) (N := some 13) (v := ?_) (a' := ?_) #[true, false, true, false, false, true, false, true, false, false, false, false, false, false, false, false, false, false, false, false] rfl rfl (Or.inl ⟨by rfl, ?_⟩) ?_ ?_
   rotate_left
   ·intro w'
    go_simp
    with_reducible rfl
   rotate_left
   ·simp only [Act.put, sA_, sB_, sC_, i64_w, i32_w]
    rfl
   refine pu_ (i := 11) (N := some 17) (v := ?_) (a' := ?_) #[true, false, true, false, false, true, false, true, false, false, false, true, false, false, false, false, false, false, false, false] rfl rfl (Or.inl ⟨by rfl, ?_⟩) ?_ ?_
   rotate_left
   ·intro w'
    go_simp
    with_reducible rfl
   rotate_left
   ·simp only [Act.put, sA_, sB_, sC_, i64_w, i32_w]
    rfl
   refine pu_ (i := 14) (N := some 20) (v := ?_) (a' := ?_) #[true, false, true, false, false, true, false, true, false, false, false, true, false, false, true, false, false, false, false, false] rfl rfl (Or.inl ⟨by rfl, ?_⟩) ?_ ?_
   rotate_left
   ·intro w'
    go_simp
    with_reducible rfl
   rotate_left
   ·simp only [Act.put, sA_, sB_, sC_, i64_w, i32_w]
    rfl
   refine take_ (i := 1) (N := some 7) (v := ?_) (a' := ?_) #[true, true, true, false, false, true, false, true, false, false, false, true, false, false, true, false, false, false, false, false] rfl rfl (take_ofW HT_.out HW_.out (by kernel_rfl)) (fun _ _ _ h => h) (Or.inl ⟨by rfl, ?_⟩) hHeld ?_ ?_
   rotate_left
   ·rintro w' ⟨s0, s1, s2, s3, s4, s5, s6, s7, s8, s9, s10, s11, s12, s13, s14, s15, s16, s17, s18, s19, s20, s21, s22, s23, s24, s25⟩
    go_simp
    with_reducible rfl
   rotate_left
   ·simp only [Act.put, sA_, sB_, sC_, i64_w, i32_w]
    rfl
   refine take_ (i := 3) (N := some 9) (v := ?_) (a' := ?_) #[true, true, true, true, false, true, false, true, false, false, false, true, false, false, true, false, false, false, false, false] rfl rfl (take_ofW HT_.out HW_.out (by kernel_rfl)) (fun _ _ _ h => h) (Or.inl ⟨by rfl, ?_⟩) hHeld ?_ ?_
   rotate_left
   ·rintro w' ⟨s0, s1, s2, s3, s4, s5, s6, s7, s8, s9, s10, s11, s12, s13, s14, s15, s16, s17, s18, s19, s20, s21, s22, s23, s24, s25⟩
    go_simp
    with_reducible rfl
   rotate_left
   ·simp only [Act.put, sA_, sB_, sC_, i64_w, i32_w]
    rfl
   refine take_ (i := 6) (N := some 12) (v := ?_) (a' := ?_) #[true, true, true, true, false, true, true, true, false, false, false, true, false, false, true, false, false, false, false, false] rfl rfl (take_ofW HT_.out HW_.out (by kernel_rfl)) (fun _ _ _ h => h) (Or.inl ⟨by rfl, ?_⟩) hHeld ?_ ?_
   rotate_left
   ·rintro w' ⟨s0, s1, s2, s3, s4, s5, s6, s7, s8, s9, s10, s11, s12, s13, s14, s15, s16, s17, s18, s19, s20, s21, s22, s23, s24, s25⟩
    go_simp
    with_reducible rfl
   rotate_left
   ·simp only [Act.put, sA_, sB_, sC_, i64_w, i32_w]
    rfl
   refine take_ (i := 8) (N := some 14) (v := ?_) (a' := ?_) #[true, true, true, true, false, true, true, true, true, false, false, true, false, false, true, false, false, false, false, false] rfl rfl (take_ofW HT_.out HW_.out (by kernel_rfl)) (fun _ _ _ h => h) (Or.inl ⟨by rfl, ?_⟩) hHeld ?_ ?_
   rotate_left
   ·rintro w' ⟨s0, s1, s2, s3, s4, s5, s6, s7, s8, s9, s10, s11, s12, s13, s14, s15, s16, s17, s18, s19, s20, s21, s22, s23, s24, s25⟩
    go_simp
    with_reducible rfl
   rotate_left
   ·simp only [Act.put, sA_, sB_, sC_, i64_w, i32_w]
    rfl
   refine take_ (i := 12) (N := some 18) (v := ?_) (a' := ?_) #[true, true, true, true, false, true, true, true, true, false, false, true, true, false, true, false, false, false, false, false] rfl rfl (take_ofW HT_.out HW_.out (by kernel_rfl)) (fun _ _ _ h => h) (Or.inl ⟨by rfl, ?_⟩) hHeld ?_ ?_
   rotate_left
   ·rintro w' ⟨s0, s1, s2, s3, s4, s5, s6, s7, s8, s9, s10, s11, s12, s13, s14, s15, s16, s17, s18, s19, s20, s21, s22, s23, s24, s25⟩
    go_simp
    with_reducible rfl
   rotate_left
   ·simp only [Act.put, sA_, sB_, sC_, i64_w, i32_w]
    rfl
   refine take_ (i := 15) (N := some 21) (v := ?_) (a' := ?_) #[true, true, true, true, false, true, true, true, true, false, false, true, true, false, true, true, false, false, false, false] rfl rfl (take_ofW HT_.out HW_.out (by kernel_rfl)) (fun _ _ _ h => h) (Or.inl ⟨by rfl, ?_⟩) hHeld ?_ ?_
   rotate_left
   ·rintro w' ⟨s0, s1, s2, s3, s4, s5, s6, s7, s8, s9, s10, s11, s12, s13, s14, s15, s16, s17, s18, s19, s20, s21, s22, s23, s24, s25⟩
    go_simp
    with_reducible rfl
   rotate_left
   ·simp only [Act.put, sA_, sB_, sC_, i64_w, i32_w]
    rfl
   refine one_ (i := 4) (N := some 10) #[true, true, true, true, true, true, true, true, true, false, false, true, true, false, true, true, false, false, false, false] rfl rfl (one_of HT_.out (by kernel_rfl)) (by decide) (fun K hK => ?_)
   refine goes_ Try.func44 (by kernel_rfl) rfl #[.agg #[.int .i64 a0_0, .int .i64 a0_1, .int .i64 a0_2, .int .i64 a0_3, .int .i64 a0_4, .bool a0_5], .agg #[.int .i64 a1_0, .int .i64 a1_1, .int .i64 a1_2, .int .i64 a1_3, .int .i64 a1_4, .bool a1_5]] (by rfl) rfl rfl args_ ?_
   with_reducible refine (impl_Shape_distance.calls k a0_0 a0_1 a0_2 a0_3 a0_4 a0_5 a1_0 a1_1 a1_2 a1_3 a1_4 a1_5 t333 _ A3.out).mono ?_
   rintro e w47 ⟨rfl, hb⟩
   refine ⟨_, rfl, ?_⟩
   have n0_ := Aside0.mk (lb_ BK331 hb)
   have n1_ := Aside0.mk (lb_ BK332 hb)
   have n2_ := Aside0.mk (below_step (bb2_ HB GE331 GE332) hb)
   clear BK331
   clear BK332
   clear HB
   have BK331 := n0_
   have BK332 := n1_
   have HB := n2_
   clear n0_ n1_ n2_
   (try clear hb)
   (try clear hb2)
   (try clear hk)
   (try clear hi)
   refine hK.out _ _ ⟨(blk_cell BK331.out 0).trans rfl, (blk_cell BK331.out 1).trans rfl, (blk_cell BK331.out 2).trans rfl, (blk_cell BK331.out 3).trans rfl, (blk_cell BK331.out 4).trans rfl, (blk_cell BK331.out 5).trans rfl, (blk_cell BK331.out 6).trans rfl, (blk_cell BK331.out 7).trans rfl, (blk_cell BK331.out 8).trans rfl, (blk_cell BK331.out 9).trans rfl, (blk_cell BK331.out 10).trans rfl, (blk_cell BK331.out 11).trans rfl, (blk_cell BK331.out 12).trans rfl, (blk_cell BK332.out 0).trans rfl, (blk_cell BK332.out 1).trans rfl, (blk_cell BK332.out 2).trans rfl, (blk_cell BK332.out 3).trans rfl, (blk_cell BK332.out 4).trans rfl, (blk_cell BK332.out 5).trans rfl, (blk_cell BK332.out 6).trans rfl, (blk_cell BK332.out 7).trans rfl, (blk_cell BK332.out 8).trans rfl, (blk_cell BK332.out 9).trans rfl, (blk_cell BK332.out 10).trans rfl, (blk_cell BK332.out 11).trans rfl, (blk_cell BK332.out 12).trans rfl⟩ (fun hHeld => ?_)
   clear hK K
   refine norm_ (a' := ?_) ?_ ?_
   rotate_left
   ·show Act.put _ (some 10) _ = _
    simp only [Act.put, sA_, sB_, sC_, i64_w, i32_w]
    rfl
   refine one_ (i := 9) (N := some 15) #[true, true, true, true, true, true, true, true, true, true, false, true, true, false, true, true, false, false, false, false] rfl rfl (one_of HT_.out (by kernel_rfl)) (by decide) (fun K hK => ?_)
   refine goes_ Try.func45 (by kernel_rfl) rfl #[.agg #[.int .i64 a0_8, .int .i64 a0_9, .bool a0_10], .agg #[.int .i64 a1_8, .int .i64 a1_9, .bool a1_10]] (by rfl) rfl rfl args_ ?_
   with_reducible refine (impl_Place_distance.calls a0_8 a0_9 a0_10 a1_8 a1_9 a1_10 t334 _ A4.out).mono ?_
   rintro e w48 ⟨rfl, hb⟩
   refine ⟨_, rfl, ?_⟩
   have n0_ := Aside0.mk (lb_ BK331 hb)
   have n1_ := Aside0.mk (lb_ BK332 hb)
   have n2_ := Aside0.mk (below_step (bb2_ HB GE331 GE332) hb)
   clear BK331
   clear BK332
   clear HB
   have BK331 := n0_
   have BK332 := n1_
   have HB := n2_
   clear n0_ n1_ n2_
   (try clear hb)
   (try clear hb2)
   (try clear hk)
   (try clear hi)
   refine hK.out _ _ ⟨(blk_cell BK331.out 0).trans rfl, (blk_cell BK331.out 1).trans rfl, (blk_cell BK331.out 2).trans rfl, (blk_cell BK331.out 3).trans rfl, (blk_cell BK331.out 4).trans rfl, (blk_cell BK331.out 5).trans rfl, (blk_cell BK331.out 6).trans rfl, (blk_cell BK331.out 7).trans rfl, (blk_cell BK331.out 8).trans rfl, (blk_cell BK331.out 9).trans rfl, (blk_cell BK331.out 10).trans rfl, (blk_cell BK331.out 11).trans rfl, (blk_cell BK331.out 12).trans rfl, (blk_cell BK332.out 0).trans rfl, (blk_cell BK332.out 1).trans rfl, (blk_cell BK332.out 2).trans rfl, (blk_cell BK332.out 3).trans rfl, (blk_cell BK332.out 4).trans rfl, (blk_cell BK332.out 5).trans rfl, (blk_cell BK332.out 6).trans rfl, (blk_cell BK332.out 7).trans rfl, (blk_cell BK332.out 8).trans rfl, (blk_cell BK332.out 9).trans rfl, (blk_cell BK332.out 10).trans rfl, (blk_cell BK332.out 11).trans rfl, (blk_cell BK332.out 12).trans rfl⟩ (fun hHeld => ?_)
   clear hK K
   refine norm_ (a' := ?_) ?_ ?_
   rotate_left
   ·show Act.put _ (some 15) _ = _
    simp only [Act.put, sA_, sB_, sC_, i64_w, i32_w]
    rfl
   refine pu_ (i := 10) (N := some 16) (v := ?_) (a' := ?_) #[true, true, true, true, true, true, true, true, true, true, true, true, true, false, true, true, false, false, false, false] rfl rfl (Or.inl ⟨by rfl, ?_⟩) ?_ ?_
   rotate_left
   ·intro w'
    go_simp
    with_reducible rfl
   rotate_left
   ·simp only [Act.put, sA_, sB_, sC_, i64_w, i32_w]
    rfl
   refine one_ (i := 13) (N := some 19) #[true, true, true, true, true, true, true, true, true, true, true, true, true, true, true, true, false, false, false, false] rfl rfl (one_of HT_.out (by kernel_rfl)) (by decide) (fun K hK => ?_)
   refine goes_ Try.func19 (by kernel_rfl) rfl #[.agg #[.string a0_11, .int .i64 a0_12]] (by rfl) rfl rfl args_ ?_
   with_reducible refine (impl_Move_all.calls a0_11 a0_12 t335 _ A5.out).mono ?_
   rintro e w49 ⟨rfl, hb⟩
   refine ⟨_, rfl, ?_⟩
   have n0_ := Aside0.mk (lb_ BK331 hb)
   have n1_ := Aside0.mk (lb_ BK332 hb)
   have n2_ := Aside0.mk (below_step (bb2_ HB GE331 GE332) hb)
   clear BK331
   clear BK332
   clear HB
   have BK331 := n0_
   have BK332 := n1_
   have HB := n2_
   clear n0_ n1_ n2_
   (try clear hb)
   (try clear hb2)
   (try clear hk)
   (try clear hi)
   refine hK.out _ _ ⟨(blk_cell BK331.out 0).trans rfl, (blk_cell BK331.out 1).trans rfl, (blk_cell BK331.out 2).trans rfl, (blk_cell BK331.out 3).trans rfl, (blk_cell BK331.out 4).trans rfl, (blk_cell BK331.out 5).trans rfl, (blk_cell BK331.out 6).trans rfl, (blk_cell BK331.out 7).trans rfl, (blk_cell BK331.out 8).trans rfl, (blk_cell BK331.out 9).trans rfl, (blk_cell BK331.out 10).trans rfl, (blk_cell BK331.out 11).trans rfl, (blk_cell BK331.out 12).trans rfl, (blk_cell BK332.out 0).trans rfl, (blk_cell BK332.out 1).trans rfl, (blk_cell BK332.out 2).trans rfl, (blk_cell BK332.out 3).trans rfl, (blk_cell BK332.out 4).trans rfl, (blk_cell BK332.out 5).trans rfl, (blk_cell BK332.out 6).trans rfl, (blk_cell BK332.out 7).trans rfl, (blk_cell BK332.out 8).trans rfl, (blk_cell BK332.out 9).trans rfl, (blk_cell BK332.out 10).trans rfl, (blk_cell BK332.out 11).trans rfl, (blk_cell BK332.out 12).trans rfl⟩ (fun hHeld => ?_)
   clear hK K
   refine norm_ (a' := ?_) ?_ ?_
   rotate_left
   ·show Act.put _ (some 19) _ = _
    simp only [Act.put, sA_, sB_, sC_, i64_w, i32_w]
    rfl
   refine one_ (i := 16) (N := some 22) #[true, true, true, true, true, true, true, true, true, true, true, true, true, true, true, true, true, false, false, false] rfl rfl (one_of HT_.out (by kernel_rfl)) (by decide) (fun K hK => ?_)
   refine goes_ Try.func19 (by kernel_rfl) rfl #[.agg #[.string a1_11, .int .i64 a1_12]] (by rfl) rfl rfl args_ ?_
   with_reducible refine (impl_Move_all.calls a1_11 a1_12 t336 _ A6.out).mono ?_
   rintro e w50 ⟨rfl, hb⟩
   refine ⟨_, rfl, ?_⟩
   have n0_ := Aside0.mk (lb_ BK331 hb)
   have n1_ := Aside0.mk (lb_ BK332 hb)
   have n2_ := Aside0.mk (below_step (bb2_ HB GE331 GE332) hb)
   clear BK331
   clear BK332
   clear HB
   have BK331 := n0_
   have BK332 := n1_
   have HB := n2_
   clear n0_ n1_ n2_
   (try clear hb)
   (try clear hb2)
   (try clear hk)
   (try clear hi)
   refine hK.out _ _ ⟨(blk_cell BK331.out 0).trans rfl, (blk_cell BK331.out 1).trans rfl, (blk_cell BK331.out 2).trans rfl, (blk_cell BK331.out 3).trans rfl, (blk_cell BK331.out 4).trans rfl, (blk_cell BK331.out 5).trans rfl, (blk_cell BK331.out 6).trans rfl, (blk_cell BK331.out 7).trans rfl, (blk_cell BK331.out 8).trans rfl, (blk_cell BK331.out 9).trans rfl, (blk_cell BK331.out 10).trans rfl, (blk_cell BK331.out 11).trans rfl, (blk_cell BK331.out 12).trans rfl, (blk_cell BK332.out 0).trans rfl, (blk_cell BK332.out 1).trans rfl, (blk_cell BK332.out 2).trans rfl, (blk_cell BK332.out 3).trans rfl, (blk_cell BK332.out 4).trans rfl, (blk_cell BK332.out 5).trans rfl, (blk_cell BK332.out 6).trans rfl, (blk_cell BK332.out 7).trans rfl, (blk_cell BK332.out 8).trans rfl, (blk_cell BK332.out 9).trans rfl, (blk_cell BK332.out 10).trans rfl, (blk_cell BK332.out 11).trans rfl, (blk_cell BK332.out 12).trans rfl⟩ (fun hHeld => ?_)
   clear hK K
   refine norm_ (a' := ?_) ?_ ?_
   rotate_left
   ·show Act.put _ (some 22) _ = _
    simp only [Act.put, sA_, sB_, sC_, i64_w, i32_w]
    rfl
   refine one_ (i := 17) (N := some 23) #[true, true, true, true, true, true, true, true, true, true, true, true, true, true, true, true, true, true, false, false] rfl rfl (one_of HT_.out (by kernel_rfl)) (by decide) (fun K hK => ?_)
   refine goes_ Try.func21 (by kernel_rfl) rfl #[.string t335, .string t336] (by rfl) rfl rfl args_ ?_
   with_reducible refine (impl_stepDistance.calls k t335 t336 t337 _ A7.out).mono ?_
   rintro e w51 ⟨rfl, hb⟩
   refine ⟨_, rfl, ?_⟩
   have n0_ := Aside0.mk (lb_ BK331 hb)
   have n1_ := Aside0.mk (lb_ BK332 hb)
   have n2_ := Aside0.mk (below_step (bb2_ HB GE331 GE332) hb)
   clear BK331
   clear BK332
   clear HB
   have BK331 := n0_
   have BK332 := n1_
   have HB := n2_
   clear n0_ n1_ n2_
   (try clear hb)
   (try clear hb2)
   (try clear hk)
   (try clear hi)
   refine hK.out _ _ ⟨(blk_cell BK331.out 0).trans rfl, (blk_cell BK331.out 1).trans rfl, (blk_cell BK331.out 2).trans rfl, (blk_cell BK331.out 3).trans rfl, (blk_cell BK331.out 4).trans rfl, (blk_cell BK331.out 5).trans rfl, (blk_cell BK331.out 6).trans rfl, (blk_cell BK331.out 7).trans rfl, (blk_cell BK331.out 8).trans rfl, (blk_cell BK331.out 9).trans rfl, (blk_cell BK331.out 10).trans rfl, (blk_cell BK331.out 11).trans rfl, (blk_cell BK331.out 12).trans rfl, (blk_cell BK332.out 0).trans rfl, (blk_cell BK332.out 1).trans rfl, (blk_cell BK332.out 2).trans rfl, (blk_cell BK332.out 3).trans rfl, (blk_cell BK332.out 4).trans rfl, (blk_cell BK332.out 5).trans rfl, (blk_cell BK332.out 6).trans rfl, (blk_cell BK332.out 7).trans rfl, (blk_cell BK332.out 8).trans rfl, (blk_cell BK332.out 9).trans rfl, (blk_cell BK332.out 10).trans rfl, (blk_cell BK332.out 11).trans rfl, (blk_cell BK332.out 12).trans rfl⟩ (fun hHeld => ?_)
   clear hK K
   refine norm_ (a' := ?_) ?_ ?_
   rotate_left
   ·show Act.put _ (some 23) _ = _
    simp only [Act.put, sA_, sB_, sC_, i64_w, i32_w]
    rfl
   refine pu_ (i := 18) (N := some 24) (v := ?_) (a' := ?_) #[true, true, true, true, true, true, true, true, true, true, true, true, true, true, true, true, true, true, true, false] rfl rfl (Or.inl ⟨by rfl, ?_⟩) ?_ ?_
   rotate_left
   ·intro w'
    go_simp
    with_reducible rfl
   rotate_left
   ·simp only [Act.put, sA_, sB_, sC_, i64_w, i32_w]
    rfl
   refine pu_ (i := 19) (N := some 5) (v := ?_) (a' := ?_) #[true, true, true, true, true, true, true, true, true, true, true, true, true, true, true, true, true, true, true, true] rfl rfl (Or.inl ⟨by rfl, ?_⟩) ?_ ?_
   rotate_left
   ·intro w'
    go_simp
    with_reducible rfl
   rotate_left
   ·simp only [Act.put, sA_, sB_, sC_, i64_w, i32_w]
    rfl
   refine done_ (done_of HT_.out (by kernel_rfl)) ?_
   have hnb52 := NB331_332.out
   have hnc52 := NB332_331.out
   have hcz53_0 := cz0_ BK331
   have hcz53_1 := cz1_ BK331
   have hcz53_2 := cz2_ BK331
   have hcz53_3 := cz3_ BK331
   have hcz53_4 : w51.cell? ⟨gb331, 4, none⟩ = some (.int .i64 a0_4) := (blk_cell BK331.out 4).trans rfl
   have hcz53_5 : w51.cell? ⟨gb331, 5, none⟩ = some (.bool a0_5) := (blk_cell BK331.out 5).trans rfl
   have hcz53_6 : w51.cell? ⟨gb331, 6, none⟩ = some (.int .i64 a0_6) := (blk_cell BK331.out 6).trans rfl
   have hcz53_7 : w51.cell? ⟨gb331, 7, none⟩ = some (.int .i64 a0_7) := (blk_cell BK331.out 7).trans rfl
   have hcz53_8 : w51.cell? ⟨gb331, 8, none⟩ = some (.int .i64 a0_8) := (blk_cell BK331.out 8).trans rfl
   have hcz53_9 : w51.cell? ⟨gb331, 9, none⟩ = some (.int .i64 a0_9) := (blk_cell BK331.out 9).trans rfl
   have hcz53_10 : w51.cell? ⟨gb331, 10, none⟩ = some (.bool a0_10) := (blk_cell BK331.out 10).trans rfl
   have hcz53_11 : w51.cell? ⟨gb331, 11, none⟩ = some (.string a0_11) := (blk_cell BK331.out 11).trans rfl
   have hcz53_12 : w51.cell? ⟨gb331, 12, none⟩ = some (.int .i64 a0_12) := (blk_cell BK331.out 12).trans rfl
   have hfz53_0 := fz_ BK331 0
   have hfz53_1 := fz_ BK331 1
   have hfz53_2 := fz_ BK331 2
   have hfz53_3 := fz_ BK331 3
   have hfz53_4 := fz_ BK331 4
   have hfz53_5 := fz_ BK331 5
   have hfz53_6 := fz_ BK331 6
   have hfz53_7 := fz_ BK331 7
   have hfz53_8 := fz_ BK331 8
   have hfz53_9 := fz_ BK331 9
   have hfz53_10 := fz_ BK331 10
   have hfz53_11 := fz_ BK331 11
   have hfz53_12 := fz_ BK331 12
   have hcz54_0 := cz0_ BK332
   have hcz54_1 := cz1_ BK332
   have hcz54_2 := cz2_ BK332
   have hcz54_3 := cz3_ BK332
   have hcz54_4 : w51.cell? ⟨gb332, 4, none⟩ = some (.int .i64 a1_4) := (blk_cell BK332.out 4).trans rfl
   have hcz54_5 : w51.cell? ⟨gb332, 5, none⟩ = some (.bool a1_5) := (blk_cell BK332.out 5).trans rfl
   have hcz54_6 : w51.cell? ⟨gb332, 6, none⟩ = some (.int .i64 a1_6) := (blk_cell BK332.out 6).trans rfl
   have hcz54_7 : w51.cell? ⟨gb332, 7, none⟩ = some (.int .i64 a1_7) := (blk_cell BK332.out 7).trans rfl
   have hcz54_8 : w51.cell? ⟨gb332, 8, none⟩ = some (.int .i64 a1_8) := (blk_cell BK332.out 8).trans rfl
   have hcz54_9 : w51.cell? ⟨gb332, 9, none⟩ = some (.int .i64 a1_9) := (blk_cell BK332.out 9).trans rfl
   have hcz54_10 : w51.cell? ⟨gb332, 10, none⟩ = some (.bool a1_10) := (blk_cell BK332.out 10).trans rfl
   have hcz54_11 : w51.cell? ⟨gb332, 11, none⟩ = some (.string a1_11) := (blk_cell BK332.out 11).trans rfl
   have hcz54_12 : w51.cell? ⟨gb332, 12, none⟩ = some (.int .i64 a1_12) := (blk_cell BK332.out 12).trans rfl
   have hfz54_0 := fz_ BK332 0
   have hfz54_1 := fz_ BK332 1
   have hfz54_2 := fz_ BK332 2
   have hfz54_3 := fz_ BK332 3
   have hfz54_4 := fz_ BK332 4
   have hfz54_5 := fz_ BK332 5
   have hfz54_6 := fz_ BK332 6
   have hfz54_7 := fz_ BK332 7
   have hfz54_8 := fz_ BK332 8
   have hfz54_9 := fz_ BK332 9
   have hfz54_10 := fz_ BK332 10
   have hfz54_11 := fz_ BK332 11
   have hfz54_12 := fz_ BK332 12
   try go_wp2
   go_ret
   exact ⟨by first | rfl | (simp [errW_none, errW_some] <;> rfl) | (simp [*, errW_none, errW_some] <;> rfl), bb2_ HB GE331 GE332⟩

/-! ### impl_HandDistance: function 15 -/
def impl_HandDistance.f (k : Nat) (a0_0 : Int) (a0_1 : Int) (a0_2 : Int) (a0_3 : Int) (a0_4 : Int) (a0_5 : Bool) (a0_6 : Int) (a0_7 : Int) (a0_8 : Int) (a0_9 : Int) (a0_10 : Bool) (a0_11 : ByteArray) (a0_12 : Int) (a1_0 : Int) (a1_1 : Int) (a1_2 : Int) (a1_3 : Int) (a1_4 : Int) (a1_5 : Bool) (a1_6 : Int) (a1_7 : Int) (a1_8 : Int) (a1_9 : Int) (a1_10 : Bool) (a1_11 : ByteArray) (a1_12 : Int) : Option (Int × Bool) := (impl_IsHand.f k a0_0 a0_1 a0_2 a0_3 a0_4 a0_5 a0_6 a0_7 a0_8 a0_9 a0_10 a0_11 a0_12).bind fun t340 => (if t340 = true then ((impl_IsHand.f k a1_0 a1_1 a1_2 a1_3 a1_4 a1_5 a1_6 a1_7 a1_8 a1_9 a1_10 a1_11 a1_12).bind fun t341 => (if t341 = true then ((impl_Hand_distance.f k a0_0 a0_1 a0_2 a0_3 a0_4 a0_5 a0_6 a0_7 a0_8 a0_9 a0_10 a0_11 a0_12 a1_0 a1_1 a1_2 a1_3 a1_4 a1_5 a1_6 a1_7 a1_8 a1_9 a1_10 a1_11 a1_12).bind fun t342 => (some (t342, true))) else (some (0, false)))) else (some (0, false)))
theorem impl_HandDistance.mono : ∀ a0 a1 a2 a3 a4 a5 a6 a7 a8 a9 a10 a11 a12 a13 a14 a15 a16 a17 a18 a19 a20 a21 a22 a23 a24 a25 k, LeO (impl_HandDistance.f k a0 a1 a2 a3 a4 a5 a6 a7 a8 a9 a10 a11 a12 a13 a14 a15 a16 a17 a18 a19 a20 a21 a22 a23 a24 a25) (impl_HandDistance.f (k + 1) a0 a1 a2 a3 a4 a5 a6 a7 a8 a9 a10 a11 a12 a13 a14 a15 a16 a17 a18 a19 a20 a21 a22 a23 a24 a25) := by
 intro a0 a1 a2 a3 a4 a5 a6 a7 a8 a9 a10 a11 a12 a13 a14 a15 a16 a17 a18 a19 a20 a21 a22 a23 a24 a25 k
 unfold impl_HandDistance.f
 repeat' first
   | (with_reducible exact impl_Hand_distance.mono _ _ _ _ _ _ _ _ _ _ _ _ _ _ _ _ _ _ _ _ _ _ _ _ _ _ _)
   | (with_reducible exact impl_IsHand.mono _ _ _ _ _ _ _ _ _ _ _ _ _ _)
   | (with_reducible exact LeO.refl _)
   | (with_reducible exact LeO.none _)
   | (with_reducible refine LeO.ite ?_ ?_)
   | (with_reducible refine LeO.bind ?_ (fun _ => ?_))
   | exact LeO.none _
   | refine LeO.ite ?_ ?_
   | refine LeO.bind ?_ (fun _ => ?_)
set_option maxHeartbeats 8000000 in
set_option maxRecDepth 100000 in
theorem impl_HandDistance.calls (k : Nat) (a0_0 : Int) (a0_1 : Int) (a0_2 : Int) (a0_3 : Int) (a0_4 : Int) (a0_5 : Bool) (a0_6 : Int) (a0_7 : Int) (a0_8 : Int) (a0_9 : Int) (a0_10 : Bool) (a0_11 : ByteArray) (a0_12 : Int) (a1_0 : Int) (a1_1 : Int) (a1_2 : Int) (a1_3 : Int) (a1_4 : Int) (a1_5 : Bool) (a1_6 : Int) (a1_7 : Int) (a1_8 : Int) (a1_9 : Int) (a1_10 : Bool) (a1_11 : ByteArray) (a1_12 : Int) (r1 : Int) (r2 : Bool) (w : World) (h : impl_HandDistance.f k a0_0 a0_1 a0_2 a0_3 a0_4 a0_5 a0_6 a0_7 a0_8 a0_9 a0_10 a0_11 a0_12 a1_0 a1_1 a1_2 a1_3 a1_4 a1_5 a1_6 a1_7 a1_8 a1_9 a1_10 a1_11 a1_12 = some (r1, r2)) :
  Calls Try.prog 15 #[.agg #[.int .i64 a0_0, .int .i64 a0_1, .int .i64 a0_2, .int .i64 a0_3, .int .i64 a0_4, .bool a0_5, .int .i64 a0_6, .int .i64 a0_7, .int .i64 a0_8, .int .i64 a0_9, .bool a0_10, .string a0_11, .int .i64 a0_12], .agg #[.int .i64 a1_0, .int .i64 a1_1, .int .i64 a1_2, .int .i64 a1_3, .int .i64 a1_4, .bool a1_5, .int .i64 a1_6, .int .i64 a1_7, .int .i64 a1_8, .int .i64 a1_9, .bool a1_10, .string a1_11, .int .i64 a1_12]] w fun e w' => e = .returned (.tuple #[.int .i64 r1, .bool r2]) ∧ Below w.heap.size w w' := by
 have hu47 := Try.underlying47
 have HB := Aside0.mk (Below.refl w.heap.size w)
 have H : ((impl_IsHand.f k a0_0 a0_1 a0_2 a0_3 a0_4 a0_5 a0_6 a0_7 a0_8 a0_9 a0_10 a0_11 a0_12).bind fun t340 => (if t340 = true then ((impl_IsHand.f k a1_0 a1_1 a1_2 a1_3 a1_4 a1_5 a1_6 a1_7 a1_8 a1_9 a1_10 a1_11 a1_12).bind fun t341 => (if t341 = true then ((impl_Hand_distance.f k a0_0 a0_1 a0_2 a0_3 a0_4 a0_5 a0_6 a0_7 a0_8 a0_9 a0_10 a0_11 a0_12 a1_0 a1_1 a1_2 a1_3 a1_4 a1_5 a1_6 a1_7 a1_8 a1_9 a1_10 a1_11 a1_12).bind fun t342 => (some (t342, true))) else (some (0, false)))) else (some (0, false)))) = some (r1, r2) := h
 clear h
 replace H := Option.bind_eq_some_iff.mp H
 obtain ⟨t340, A30, H⟩ := H
 try dsimp only at H
 have A3 := Aside0.mk A30
 clear A30
 by_cases c4 : t340 = true
 ·subst c4
  have H1 : ((impl_IsHand.f k a1_0 a1_1 a1_2 a1_3 a1_4 a1_5 a1_6 a1_7 a1_8 a1_9 a1_10 a1_11 a1_12).bind fun t341 => (if t341 = true then ((impl_Hand_distance.f k a0_0 a0_1 a0_2 a0_3 a0_4 a0_5 a0_6 a0_7 a0_8 a0_9 a0_10 a0_11 a0_12 a1_0 a1_1 a1_2 a1_3 a1_4 a1_5 a1_6 a1_7 a1_8 a1_9 a1_10 a1_11 a1_12).bind fun t342 => (some (t342, true))) else (some (0, false)))) = some (r1, r2) := by rw [if_pos rfl] at H; exact H
  clear H
  have H := H1
  clear H1
  replace H := Option.bind_eq_some_iff.mp H
  obtain ⟨t341, A50, H⟩ := H
  try dsimp only at H
  have A5 := Aside0.mk A50
  clear A50
  by_cases c6 : t341 = true
  ·subst c6
   have H1 : ((impl_Hand_distance.f k a0_0 a0_1 a0_2 a0_3 a0_4 a0_5 a0_6 a0_7 a0_8 a0_9 a0_10 a0_11 a0_12 a1_0 a1_1 a1_2 a1_3 a1_4 a1_5 a1_6 a1_7 a1_8 a1_9 a1_10 a1_11 a1_12).bind fun t342 => (some (t342, true))) = some (r1, r2) := by rw [if_pos rfl] at H; exact H
   clear H
   have H := H1
   clear H1
   replace H := Option.bind_eq_some_iff.mp H
   obtain ⟨t342, A70, H⟩ := H
   try dsimp only at H
   have A7 := Aside0.mk A70
   clear A70
   simp only [Option.some.injEq, Prod.mk.injEq] at H
   obtain ⟨rfl, rfl⟩ := H
   go_enter Try.func15, Try.ntmps15
   go_wp2_with (first | ((with_reducible refine gate_dst (N := 2) rfl ?_); refine box_event ?hg (N := 2) ?hd (cs := #[.int .i64 a0_0, .int .i64 a0_1, .int .i64 a0_2, .int .i64 a0_3, .int .i64 a0_4, .bool a0_5, .int .i64 a0_6, .int .i64 a0_7, .int .i64 a0_8, .int .i64 a0_9, .bool a0_10, .string a0_11, .int .i64 a0_12]) (t := 47) ?hr ?_; (case hd => rfl); (case hg => rfl); (case hr => first | (go_simp; done) | (go_simp; rfl)); intro gb338 hg w8 hbox hb; have n0_ := Aside0.mk (bt_ HB hb); have n1_ := Aside0.mk (hbox); have n2_ := gz_ hg HB; have n3_ := gz_ hg HB; clear HB; have HB := n0_; have BK338 := n1_; have GW338 := n2_; have GE338 := n3_; clear n0_ n1_ n2_ n3_; clear hb hbox hg) | ((with_reducible refine gate_dst (N := 3) rfl ?_); refine box_event ?hg (N := 3) ?hd (cs := #[.int .i64 a1_0, .int .i64 a1_1, .int .i64 a1_2, .int .i64 a1_3, .int .i64 a1_4, .bool a1_5, .int .i64 a1_6, .int .i64 a1_7, .int .i64 a1_8, .int .i64 a1_9, .bool a1_10, .string a1_11, .int .i64 a1_12]) (t := 47) ?hr ?_; (case hd => rfl); (case hg => rfl); (case hr => first | (go_simp; done) | (go_simp; rfl)); intro gb339 hg w9 hbox hb; have n0_ := Aside0.mk (lb_ BK338 hb); have n1_ := Aside0.mk (below_step (bb1_ HB GE338) hb); have n2_ := Aside0.mk (hbox); have n3_ := gy_ hg (bb1_ HB GE338); have n4_ := gy_ hg (bb1_ HB GE338); have n5_ := nl_ hg BK338; have n6_ := ng_ hg BK338; clear BK338; clear HB; have BK338 := n0_; have HB := n1_; have BK339 := n2_; have GW339 := n3_; have GE339 := n4_; have NB338_339 := n5_; have NB339_338 := n6_; clear n0_ n1_ n2_ n3_ n4_ n5_ n6_; clear hb hbox hg; have hnb10 := NB338_339.out; have hnc10 := NB339_338.out; have hcz11_0 := cz0_ BK338; have hcz11_1 := cz1_ BK338; have hcz11_2 := cz2_ BK338; have hcz11_3 := cz3_ BK338; have hcz11_4 : w9.cell? ⟨gb338, 4, none⟩ = some (.int .i64 a0_4) := (blk_cell BK338.out 4).trans rfl; have hcz11_5 : w9.cell? ⟨gb338, 5, none⟩ = some (.bool a0_5) := (blk_cell BK338.out 5).trans rfl; have hcz11_6 : w9.cell? ⟨gb338, 6, none⟩ = some (.int .i64 a0_6) := (blk_cell BK338.out 6).trans rfl; have hcz11_7 : w9.cell? ⟨gb338, 7, none⟩ = some (.int .i64 a0_7) := (blk_cell BK338.out 7).trans rfl; have hcz11_8 : w9.cell? ⟨gb338, 8, none⟩ = some (.int .i64 a0_8) := (blk_cell BK338.out 8).trans rfl; have hcz11_9 : w9.cell? ⟨gb338, 9, none⟩ = some (.int .i64 a0_9) := (blk_cell BK338.out 9).trans rfl; have hcz11_10 : w9.cell? ⟨gb338, 10, none⟩ = some (.bool a0_10) := (blk_cell BK338.out 10).trans rfl; have hcz11_11 : w9.cell? ⟨gb338, 11, none⟩ = some (.string a0_11) := (blk_cell BK338.out 11).trans rfl; have hcz11_12 : w9.cell? ⟨gb338, 12, none⟩ = some (.int .i64 a0_12) := (blk_cell BK338.out 12).trans rfl; have hfz11_0 := fz_ BK338 0; have hfz11_1 := fz_ BK338 1; have hfz11_2 := fz_ BK338 2; have hfz11_3 := fz_ BK338 3; have hfz11_4 := fz_ BK338 4; have hfz11_5 := fz_ BK338 5; have hfz11_6 := fz_ BK338 6; have hfz11_7 := fz_ BK338 7; have hfz11_8 := fz_ BK338 8; have hfz11_9 := fz_ BK338 9; have hfz11_10 := fz_ BK338 10; have hfz11_11 := fz_ BK338 11; have hfz11_12 := fz_ BK338 12) | ((with_reducible refine gate_callee (f := 27) rfl ?_); refine goesL_ (some 7) rfl rfl Try.func27 (by kernel_rfl) rfl #[.agg #[.int .i64 a0_0, .int .i64 a0_1, .int .i64 a0_2, .int .i64 a0_3, .int .i64 a0_4, .bool a0_5, .int .i64 a0_6, .int .i64 a0_7, .int .i64 a0_8, .int .i64 a0_9, .bool a0_10, .string a0_11, .int .i64 a0_12]] rfl args_ ?_; (with_reducible refine (impl_IsHand.calls k a0_0 a0_1 a0_2 a0_3 a0_4 a0_5 a0_6 a0_7 a0_8 a0_9 a0_10 a0_11 a0_12 true _ A3.out).mono ?_); rintro e w12 ⟨rfl, hb⟩; refine ⟨_, rfl, ?_⟩; have n0_ := Aside0.mk (lb_ BK338 hb); have n1_ := Aside0.mk (lb_ BK339 hb); have n2_ := Aside0.mk (below_step (bb2_ HB GE338 GE339) hb); clear BK338; clear BK339; clear HB; have BK338 := n0_; have BK339 := n1_; have HB := n2_; clear n0_ n1_ n2_; (try clear hb); (try clear hb2); (try clear hk); (try clear hi); have hcz13_0 := cz0_ BK339; have hcz13_1 := cz1_ BK339; have hcz13_2 := cz2_ BK339; have hcz13_3 := cz3_ BK339; have hcz13_4 : w12.cell? ⟨gb339, 4, none⟩ = some (.int .i64 a1_4) := (blk_cell BK339.out 4).trans rfl; have hcz13_5 : w12.cell? ⟨gb339, 5, none⟩ = some (.bool a1_5) := (blk_cell BK339.out 5).trans rfl; have hcz13_6 : w12.cell? ⟨gb339, 6, none⟩ = some (.int .i64 a1_6) := (blk_cell BK339.out 6).trans rfl; have hcz13_7 : w12.cell? ⟨gb339, 7, none⟩ = some (.int .i64 a1_7) := (blk_cell BK339.out 7).trans rfl; have hcz13_8 : w12.cell? ⟨gb339, 8, none⟩ = some (.int .i64 a1_8) := (blk_cell BK339.out 8).trans rfl; have hcz13_9 : w12.cell? ⟨gb339, 9, none⟩ = some (.int .i64 a1_9) := (blk_cell BK339.out 9).trans rfl; have hcz13_10 : w12.cell? ⟨gb339, 10, none⟩ = some (.bool a1_10) := (blk_cell BK339.out 10).trans rfl; have hcz13_11 : w12.cell? ⟨gb339, 11, none⟩ = some (.string a1_11) := (blk_cell BK339.out 11).trans rfl; have hcz13_12 : w12.cell? ⟨gb339, 12, none⟩ = some (.int .i64 a1_12) := (blk_cell BK339.out 12).trans rfl; have hfz13_0 := fz_ BK339 0; have hfz13_1 := fz_ BK339 1; have hfz13_2 := fz_ BK339 2; have hfz13_3 := fz_ BK339 3; have hfz13_4 := fz_ BK339 4; have hfz13_5 := fz_ BK339 5; have hfz13_6 := fz_ BK339 6; have hfz13_7 := fz_ BK339 7; have hfz13_8 := fz_ BK339 8; have hfz13_9 := fz_ BK339 9; have hfz13_10 := fz_ BK339 10; have hfz13_11 := fz_ BK339 11; have hfz13_12 := fz_ BK339 12) | (go_at_call 27; (with_reducible refine (impl_IsHand.calls k a1_0 a1_1 a1_2 a1_3 a1_4 a1_5 a1_6 a1_7 a1_8 a1_9 a1_10 a1_11 a1_12 true _ A5.out).mono ?_); rintro e w14 ⟨rfl, hb⟩; have n0_ := Aside0.mk (lb_ BK338 hb); have n1_ := Aside0.mk (lb_ BK339 hb); have n2_ := Aside0.mk (below_step (bb2_ HB GE338 GE339) hb); clear BK338; clear BK339; clear HB; have BK338 := n0_; have BK339 := n1_; have HB := n2_; clear n0_ n1_ n2_; (try clear hb); (try clear hb2); (try clear hk); (try clear hi); have hcz15_0 := cz0_ BK338; have hcz15_1 := cz1_ BK338; have hcz15_2 := cz2_ BK338; have hcz15_3 := cz3_ BK338; have hcz15_4 : w14.cell? ⟨gb338, 4, none⟩ = some (.int .i64 a0_4) := (blk_cell BK338.out 4).trans rfl; have hcz15_5 : w14.cell? ⟨gb338, 5, none⟩ = some (.bool a0_5) := (blk_cell BK338.out 5).trans rfl; have hcz15_6 : w14.cell? ⟨gb338, 6, none⟩ = some (.int .i64 a0_6) := (blk_cell BK338.out 6).trans rfl; have hcz15_7 : w14.cell? ⟨gb338, 7, none⟩ = some (.int .i64 a0_7) := (blk_cell BK338.out 7).trans rfl; have hcz15_8 : w14.cell? ⟨gb338, 8, none⟩ = some (.int .i64 a0_8) := (blk_cell BK338.out 8).trans rfl; have hcz15_9 : w14.cell? ⟨gb338, 9, none⟩ = some (.int .i64 a0_9) := (blk_cell BK338.out 9).trans rfl; have hcz15_10 : w14.cell? ⟨gb338, 10, none⟩ = some (.bool a0_10) := (blk_cell BK338.out 10).trans rfl; have hcz15_11 : w14.cell? ⟨gb338, 11, none⟩ = some (.string a0_11) := (blk_cell BK338.out 11).trans rfl; have hcz15_12 : w14.cell? ⟨gb338, 12, none⟩ = some (.int .i64 a0_12) := (blk_cell BK338.out 12).trans rfl; have hfz15_0 := fz_ BK338 0; have hfz15_1 := fz_ BK338 1; have hfz15_2 := fz_ BK338 2; have hfz15_3 := fz_ BK338 3; have hfz15_4 := fz_ BK338 4; have hfz15_5 := fz_ BK338 5; have hfz15_6 := fz_ BK338 6; have hfz15_7 := fz_ BK338 7; have hfz15_8 := fz_ BK338 8; have hfz15_9 := fz_ BK338 9; have hfz15_10 := fz_ BK338 10; have hfz15_11 := fz_ BK338 11; have hfz15_12 := fz_ BK338 12; have hcz16_0 := cz0_ BK339; have hcz16_1 := cz1_ BK339; have hcz16_2 := cz2_ BK339; have hcz16_3 := cz3_ BK339; have hcz16_4 : w14.cell? ⟨gb339, 4, none⟩ = some (.int .i64 a1_4) := (blk_cell BK339.out 4).trans rfl; have hcz16_5 : w14.cell? ⟨gb339, 5, none⟩ = some (.bool a1_5) := (blk_cell BK339.out 5).trans rfl; have hcz16_6 : w14.cell? ⟨gb339, 6, none⟩ = some (.int .i64 a1_6) := (blk_cell BK339.out 6).trans rfl; have hcz16_7 : w14.cell? ⟨gb339, 7, none⟩ = some (.int .i64 a1_7) := (blk_cell BK339.out 7).trans rfl; have hcz16_8 : w14.cell? ⟨gb339, 8, none⟩ = some (.int .i64 a1_8) := (blk_cell BK339.out 8).trans rfl; have hcz16_9 : w14.cell? ⟨gb339, 9, none⟩ = some (.int .i64 a1_9) := (blk_cell BK339.out 9).trans rfl; have hcz16_10 : w14.cell? ⟨gb339, 10, none⟩ = some (.bool a1_10) := (blk_cell BK339.out 10).trans rfl; have hcz16_11 : w14.cell? ⟨gb339, 11, none⟩ = some (.string a1_11) := (blk_cell BK339.out 11).trans rfl; have hcz16_12 : w14.cell? ⟨gb339, 12, none⟩ = some (.int .i64 a1_12) := (blk_cell BK339.out 12).trans rfl; have hfz16_0 := fz_ BK339 0; have hfz16_1 := fz_ BK339 1; have hfz16_2 := fz_ BK339 2; have hfz16_3 := fz_ BK339 3; have hfz16_4 := fz_ BK339 4; have hfz16_5 := fz_ BK339 5; have hfz16_6 := fz_ BK339 6; have hfz16_7 := fz_ BK339 7; have hfz16_8 := fz_ BK339 8; have hfz16_9 := fz_ BK339 9; have hfz16_10 := fz_ BK339 10; have hfz16_11 := fz_ BK339 11; have hfz16_12 := fz_ BK339 12) | ((with_reducible refine gate_callee (f := 28) rfl ?_); refine goesL_ (some 16) rfl rfl Try.func28 (by kernel_rfl) rfl #[.agg #[.int .i64 a0_0, .int .i64 a0_1, .int .i64 a0_2, .int .i64 a0_3, .int .i64 a0_4, .bool a0_5, .int .i64 a0_6, .int .i64 a0_7, .int .i64 a0_8, .int .i64 a0_9, .bool a0_10, .string a0_11, .int .i64 a0_12], .agg #[.int .i64 a1_0, .int .i64 a1_1, .int .i64 a1_2, .int .i64 a1_3, .int .i64 a1_4, .bool a1_5, .int .i64 a1_6, .int .i64 a1_7, .int .i64 a1_8, .int .i64 a1_9, .bool a1_10, .string a1_11, .int .i64 a1_12]] rfl args_ ?_; (with_reducible refine (impl_Hand_distance.calls k a0_0 a0_1 a0_2 a0_3 a0_4 a0_5 a0_6 a0_7 a0_8 a0_9 a0_10 a0_11 a0_12 a1_0 a1_1 a1_2 a1_3 a1_4 a1_5 a1_6 a1_7 a1_8 a1_9 a1_10 a1_11 a1_12 t342 _ A7.out).mono ?_); rintro e w17 ⟨rfl, hb⟩; refine ⟨_, rfl, ?_⟩; have n0_ := Aside0.mk (lb_ BK338 hb); have n1_ := Aside0.mk (lb_ BK339 hb); have n2_ := Aside0.mk (below_step (bb2_ HB GE338 GE339) hb); clear BK338; clear BK339; clear HB; have BK338 := n0_; have BK339 := n1_; have HB := n2_; clear n0_ n1_ n2_; (try clear hb); (try clear hb2); (try clear hk); (try clear hi)))
   go_ret2
   exact ⟨by first | rfl | (simp [errW_none, errW_some] <;> rfl) | (simp [*, errW_none, errW_some] <;> rfl), bb2_ HB GE338 GE339⟩
  ·replace c6 := Bool.eq_false_iff.mpr c6
   subst c6
   have H1 : (some (0, false)) = some (r1, r2) := by rw [if_neg (show ¬ (false = true) by decide)] at H; exact H
   clear H
   have H := H1
   clear H1
   simp only [Option.some.injEq, Prod.mk.injEq] at H
   obtain ⟨rfl, rfl⟩ := H
   go_enter Try.func15, Try.ntmps15
   go_wp2_with (first | ((with_reducible refine gate_dst (N := 2) rfl ?_); refine box_event ?hg (N := 2) ?hd (cs := #[.int .i64 a0_0, .int .i64 a0_1, .int .i64 a0_2, .int .i64 a0_3, .int .i64 a0_4, .bool a0_5, .int .i64 a0_6, .int .i64 a0_7, .int .i64 a0_8, .int .i64 a0_9, .bool a0_10, .string a0_11, .int .i64 a0_12]) (t := 47) ?hr ?_; (case hd => rfl); (case hg => rfl); (case hr => first | (go_simp; done) | (go_simp; rfl)); intro gb338 hg w18 hbox hb; have n0_ := Aside0.mk (bt_ HB hb); have n1_ := Aside0.mk (hbox); have n2_ := gz_ hg HB; have n3_ := gz_ hg HB; clear HB; have HB := n0_; have BK338 := n1_; have GW338 := n2_; have GE338 := n3_; clear n0_ n1_ n2_ n3_; clear hb hbox hg) | ((with_reducible refine gate_dst (N := 3) rfl ?_); refine box_event ?hg (N := 3) ?hd (cs := #[.int .i64 a1_0, .int .i64 a1_1, .int .i64 a1_2, .int .i64 a1_3, .int .i64 a1_4, .bool a1_5, .int .i64 a1_6, .int .i64 a1_7, .int .i64 a1_8, .int .i64 a1_9, .bool a1_10, .string a1_11, .int .i64 a1_12]) (t := 47) ?hr ?_; (case hd => rfl); (case hg => rfl); (case hr => first | (go_simp; done) | (go_simp; rfl)); intro gb339 hg w19 hbox hb; have n0_ := Aside0.mk (lb_ BK338 hb); have n1_ := Aside0.mk (below_step (bb1_ HB GE338) hb); have n2_ := Aside0.mk (hbox); have n3_ := gy_ hg (bb1_ HB GE338); have n4_ := gy_ hg (bb1_ HB GE338); have n5_ := nl_ hg BK338; have n6_ := ng_ hg BK338; clear BK338; clear HB; have BK338 := n0_; have HB := n1_; have BK339 := n2_; have GW339 := n3_; have GE339 := n4_; have NB338_339 := n5_; have NB339_338 := n6_; clear n0_ n1_ n2_ n3_ n4_ n5_ n6_; clear hb hbox hg; have hnb20 := NB338_339.out; have hnc20 := NB339_338.out; have hcz21_0 := cz0_ BK338; have hcz21_1 := cz1_ BK338; have hcz21_2 := cz2_ BK338; have hcz21_3 := cz3_ BK338; have hcz21_4 : w19.cell? ⟨gb338, 4, none⟩ = some (.int .i64 a0_4) := (blk_cell BK338.out 4).trans rfl; have hcz21_5 : w19.cell? ⟨gb338, 5, none⟩ = some (.bool a0_5) := (blk_cell BK338.out 5).trans rfl; have hcz21_6 : w19.cell? ⟨gb338, 6, none⟩ = some (.int .i64 a0_6) := (blk_cell BK338.out 6).trans rfl; have hcz21_7 : w19.cell? ⟨gb338, 7, none⟩ = some (.int .i64 a0_7) := (blk_cell BK338.out 7).trans rfl; have hcz21_8 : w19.cell? ⟨gb338, 8, none⟩ = some (.int .i64 a0_8) := (blk_cell BK338.out 8).trans rfl; have hcz21_9 : w19.cell? ⟨gb338, 9, none⟩ = some (.int .i64 a0_9) := (blk_cell BK338.out 9).trans rfl; have hcz21_10 : w19.cell? ⟨gb338, 10, none⟩ = some (.bool a0_10) := (blk_cell BK338.out 10).trans rfl; have hcz21_11 : w19.cell? ⟨gb338, 11, none⟩ = some (.string a0_11) := (blk_cell BK338.out 11).trans rfl; have hcz21_12 : w19.cell? ⟨gb338, 12, none⟩ = some (.int .i64 a0_12) := (blk_cell BK338.out 12).trans rfl; have hfz21_0 := fz_ BK338 0; have hfz21_1 := fz_ BK338 1; have hfz21_2 := fz_ BK338 2; have hfz21_3 := fz_ BK338 3; have hfz21_4 := fz_ BK338 4; have hfz21_5 := fz_ BK338 5; have hfz21_6 := fz_ BK338 6; have hfz21_7 := fz_ BK338 7; have hfz21_8 := fz_ BK338 8; have hfz21_9 := fz_ BK338 9; have hfz21_10 := fz_ BK338 10; have hfz21_11 := fz_ BK338 11; have hfz21_12 := fz_ BK338 12) | ((with_reducible refine gate_callee (f := 27) rfl ?_); refine goesL_ (some 7) rfl rfl Try.func27 (by kernel_rfl) rfl #[.agg #[.int .i64 a0_0, .int .i64 a0_1, .int .i64 a0_2, .int .i64 a0_3, .int .i64 a0_4, .bool a0_5, .int .i64 a0_6, .int .i64 a0_7, .int .i64 a0_8, .int .i64 a0_9, .bool a0_10, .string a0_11, .int .i64 a0_12]] rfl args_ ?_; (with_reducible refine (impl_IsHand.calls k a0_0 a0_1 a0_2 a0_3 a0_4 a0_5 a0_6 a0_7 a0_8 a0_9 a0_10 a0_11 a0_12 true _ A3.out).mono ?_); rintro e w22 ⟨rfl, hb⟩; refine ⟨_, rfl, ?_⟩; have n0_ := Aside0.mk (lb_ BK338 hb); have n1_ := Aside0.mk (lb_ BK339 hb); have n2_ := Aside0.mk (below_step (bb2_ HB GE338 GE339) hb); clear BK338; clear BK339; clear HB; have BK338 := n0_; have BK339 := n1_; have HB := n2_; clear n0_ n1_ n2_; (try clear hb); (try clear hb2); (try clear hk); (try clear hi); have hcz23_0 := cz0_ BK339; have hcz23_1 := cz1_ BK339; have hcz23_2 := cz2_ BK339; have hcz23_3 := cz3_ BK339; have hcz23_4 : w22.cell? ⟨gb339, 4, none⟩ = some (.int .i64 a1_4) := (blk_cell BK339.out 4).trans rfl; have hcz23_5 : w22.cell? ⟨gb339, 5, none⟩ = some (.bool a1_5) := (blk_cell BK339.out 5).trans rfl; have hcz23_6 : w22.cell? ⟨gb339, 6, none⟩ = some (.int .i64 a1_6) := (blk_cell BK339.out 6).trans rfl; have hcz23_7 : w22.cell? ⟨gb339, 7, none⟩ = some (.int .i64 a1_7) := (blk_cell BK339.out 7).trans rfl; have hcz23_8 : w22.cell? ⟨gb339, 8, none⟩ = some (.int .i64 a1_8) := (blk_cell BK339.out 8).trans rfl; have hcz23_9 : w22.cell? ⟨gb339, 9, none⟩ = some (.int .i64 a1_9) := (blk_cell BK339.out 9).trans rfl; have hcz23_10 : w22.cell? ⟨gb339, 10, none⟩ = some (.bool a1_10) := (blk_cell BK339.out 10).trans rfl; have hcz23_11 : w22.cell? ⟨gb339, 11, none⟩ = some (.string a1_11) := (blk_cell BK339.out 11).trans rfl; have hcz23_12 : w22.cell? ⟨gb339, 12, none⟩ = some (.int .i64 a1_12) := (blk_cell BK339.out 12).trans rfl; have hfz23_0 := fz_ BK339 0; have hfz23_1 := fz_ BK339 1; have hfz23_2 := fz_ BK339 2; have hfz23_3 := fz_ BK339 3; have hfz23_4 := fz_ BK339 4; have hfz23_5 := fz_ BK339 5; have hfz23_6 := fz_ BK339 6; have hfz23_7 := fz_ BK339 7; have hfz23_8 := fz_ BK339 8; have hfz23_9 := fz_ BK339 9; have hfz23_10 := fz_ BK339 10; have hfz23_11 := fz_ BK339 11; have hfz23_12 := fz_ BK339 12) | (go_at_call 27; (with_reducible refine (impl_IsHand.calls k a1_0 a1_1 a1_2 a1_3 a1_4 a1_5 a1_6 a1_7 a1_8 a1_9 a1_10 a1_11 a1_12 false _ A5.out).mono ?_); rintro e w24 ⟨rfl, hb⟩; have n0_ := Aside0.mk (lb_ BK338 hb); have n1_ := Aside0.mk (lb_ BK339 hb); have n2_ := Aside0.mk (below_step (bb2_ HB GE338 GE339) hb); clear BK338; clear BK339; clear HB; have BK338 := n0_; have BK339 := n1_; have HB := n2_; clear n0_ n1_ n2_; (try clear hb); (try clear hb2); (try clear hk); (try clear hi)))
   go_ret2
   exact ⟨by first | rfl | (simp [errW_none, errW_some] <;> rfl) | (simp [*, errW_none, errW_some] <;> rfl), bb2_ HB GE338 GE339⟩
 ·replace c4 := Bool.eq_false_iff.mpr c4
  subst c4
  have H1 : (some (0, false)) = some (r1, r2) := by rw [if_neg (show ¬ (false = true) by decide)] at H; exact H
  clear H
  have H := H1
  clear H1
  simp only [Option.some.injEq, Prod.mk.injEq] at H
  obtain ⟨rfl, rfl⟩ := H
  go_enter Try.func15, Try.ntmps15
  go_wp2_with (first | ((with_reducible refine gate_dst (N := 2) rfl ?_); refine box_event ?hg (N := 2) ?hd (cs := #[.int .i64 a0_0, .int .i64 a0_1, .int .i64 a0_2, .int .i64 a0_3, .int .i64 a0_4, .bool a0_5, .int .i64 a0_6, .int .i64 a0_7, .int .i64 a0_8, .int .i64 a0_9, .bool a0_10, .string a0_11, .int .i64 a0_12]) (t := 47) ?hr ?_; (case hd => rfl); (case hg => rfl); (case hr => first | (go_simp; done) | (go_simp; rfl)); intro gb338 hg w25 hbox hb; have n0_ := Aside0.mk (bt_ HB hb); have n1_ := Aside0.mk (hbox); have n2_ := gz_ hg HB; have n3_ := gz_ hg HB; clear HB; have HB := n0_; have BK338 := n1_; have GW338 := n2_; have GE338 := n3_; clear n0_ n1_ n2_ n3_; clear hb hbox hg) | ((with_reducible refine gate_dst (N := 3) rfl ?_); refine box_event ?hg (N := 3) ?hd (cs := #[.int .i64 a1_0, .int .i64 a1_1, .int .i64 a1_2, .int .i64 a1_3, .int .i64 a1_4, .bool a1_5, .int .i64 a1_6, .int .i64 a1_7, .int .i64 a1_8, .int .i64 a1_9, .bool a1_10, .string a1_11, .int .i64 a1_12]) (t := 47) ?hr ?_; (case hd => rfl); (case hg => rfl); (case hr => first | (go_simp; done) | (go_simp; rfl)); intro gb339 hg w26 hbox hb; have n0_ := Aside0.mk (lb_ BK338 hb); have n1_ := Aside0.mk (below_step (bb1_ HB GE338) hb); have n2_ := Aside0.mk (hbox); have n3_ := gy_ hg (bb1_ HB GE338); have n4_ := gy_ hg (bb1_ HB GE338); have n5_ := nl_ hg BK338; have n6_ := ng_ hg BK338; clear BK338; clear HB; have BK338 := n0_; have HB := n1_; have BK339 := n2_; have GW339 := n3_; have GE339 := n4_; have NB338_339 := n5_; have NB339_338 := n6_; clear n0_ n1_ n2_ n3_ n4_ n5_ n6_; clear hb hbox hg; have hnb27 := NB338_339.out; have hnc27 := NB339_338.out; have hcz28_0 := cz0_ BK338; have hcz28_1 := cz1_ BK338; have hcz28_2 := cz2_ BK338; have hcz28_3 := cz3_ BK338; have hcz28_4 : w26.cell? ⟨gb338, 4, none⟩ = some (.int .i64 a0_4) := (blk_cell BK338.out 4).trans rfl; have hcz28_5 : w26.cell? ⟨gb338, 5, none⟩ = some (.bool a0_5) := (blk_cell BK338.out 5).trans rfl; have hcz28_6 : w26.cell? ⟨gb338, 6, none⟩ = some (.int .i64 a0_6) := (blk_cell BK338.out 6).trans rfl; have hcz28_7 : w26.cell? ⟨gb338, 7, none⟩ = some (.int .i64 a0_7) := (blk_cell BK338.out 7).trans rfl; have hcz28_8 : w26.cell? ⟨gb338, 8, none⟩ = some (.int .i64 a0_8) := (blk_cell BK338.out 8).trans rfl; have hcz28_9 : w26.cell? ⟨gb338, 9, none⟩ = some (.int .i64 a0_9) := (blk_cell BK338.out 9).trans rfl; have hcz28_10 : w26.cell? ⟨gb338, 10, none⟩ = some (.bool a0_10) := (blk_cell BK338.out 10).trans rfl; have hcz28_11 : w26.cell? ⟨gb338, 11, none⟩ = some (.string a0_11) := (blk_cell BK338.out 11).trans rfl; have hcz28_12 : w26.cell? ⟨gb338, 12, none⟩ = some (.int .i64 a0_12) := (blk_cell BK338.out 12).trans rfl; have hfz28_0 := fz_ BK338 0; have hfz28_1 := fz_ BK338 1; have hfz28_2 := fz_ BK338 2; have hfz28_3 := fz_ BK338 3; have hfz28_4 := fz_ BK338 4; have hfz28_5 := fz_ BK338 5; have hfz28_6 := fz_ BK338 6; have hfz28_7 := fz_ BK338 7; have hfz28_8 := fz_ BK338 8; have hfz28_9 := fz_ BK338 9; have hfz28_10 := fz_ BK338 10; have hfz28_11 := fz_ BK338 11; have hfz28_12 := fz_ BK338 12) | ((with_reducible refine gate_callee (f := 27) rfl ?_); refine goesL_ (some 7) rfl rfl Try.func27 (by kernel_rfl) rfl #[.agg #[.int .i64 a0_0, .int .i64 a0_1, .int .i64 a0_2, .int .i64 a0_3, .int .i64 a0_4, .bool a0_5, .int .i64 a0_6, .int .i64 a0_7, .int .i64 a0_8, .int .i64 a0_9, .bool a0_10, .string a0_11, .int .i64 a0_12]] rfl args_ ?_; (with_reducible refine (impl_IsHand.calls k a0_0 a0_1 a0_2 a0_3 a0_4 a0_5 a0_6 a0_7 a0_8 a0_9 a0_10 a0_11 a0_12 false _ A3.out).mono ?_); rintro e w29 ⟨rfl, hb⟩; refine ⟨_, rfl, ?_⟩; have n0_ := Aside0.mk (lb_ BK338 hb); have n1_ := Aside0.mk (lb_ BK339 hb); have n2_ := Aside0.mk (below_step (bb2_ HB GE338 GE339) hb); clear BK338; clear BK339; clear HB; have BK338 := n0_; have BK339 := n1_; have HB := n2_; clear n0_ n1_ n2_; (try clear hb); (try clear hb2); (try clear hk); (try clear hi)))
  go_ret2
  exact ⟨by first | rfl | (simp [errW_none, errW_some] <;> rfl) | (simp [*, errW_none, errW_some] <;> rfl), bb2_ HB GE338 GE339⟩

/-! ### laws_FnExactHandDistance: function 5 -/
def laws_FnExactHandDistance.f (k : Nat) (a0_0 : Int) (a0_1 : Int) (a0_2 : Int) (a0_3 : Int) (a0_4 : Int) (a0_5 : Bool) (a0_6 : Int) (a0_7 : Int) (a0_8 : Int) (a0_9 : Int) (a0_10 : Bool) (a0_11 : ByteArray) (a0_12 : Int) (a1_0 : Int) (a1_1 : Int) (a1_2 : Int) (a1_3 : Int) (a1_4 : Int) (a1_5 : Bool) (a1_6 : Int) (a1_7 : Int) (a1_8 : Int) (a1_9 : Int) (a1_10 : Bool) (a1_11 : ByteArray) (a1_12 : Int) : Option (Bool) := (laws_szHand.f a0_0 a0_1 a0_2 a0_3 a0_4 a0_5 a0_6 a0_7 a0_8 a0_9 a0_10 a0_11 a0_12 1048576).bind fun t345 => (if t345 < 0 then (some true) else ((laws_szHand.f a1_0 a1_1 a1_2 a1_3 a1_4 a1_5 a1_6 a1_7 a1_8 a1_9 a1_10 a1_11 a1_12 t345).bind fun t346 => (if t346 < 0 then (some true) else ((laws_toHand.f a0_0 a0_1 a0_2 a0_3 a0_4 a0_5 a0_6 a0_7 a0_8 a0_9 a0_10 a0_11 a0_12).bind fun bt347 => ((laws_toHand.f a1_0 a1_1 a1_2 a1_3 a1_4 a1_5 a1_6 a1_7 a1_8 a1_9 a1_10 a1_11 a1_12).bind fun bt360 => ((spec_HandDistance.f k bt347.1 bt347.2.1 bt347.2.2.1 bt347.2.2.2.1 bt347.2.2.2.2.1 bt347.2.2.2.2.2.1 bt347.2.2.2.2.2.2.1 bt347.2.2.2.2.2.2.2.1 bt347.2.2.2.2.2.2.2.2.1 bt347.2.2.2.2.2.2.2.2.2.1 bt347.2.2.2.2.2.2.2.2.2.2.1 bt347.2.2.2.2.2.2.2.2.2.2.2.1 bt347.2.2.2.2.2.2.2.2.2.2.2.2 bt360.1 bt360.2.1 bt360.2.2.1 bt360.2.2.2.1 bt360.2.2.2.2.1 bt360.2.2.2.2.2.1 bt360.2.2.2.2.2.2.1 bt360.2.2.2.2.2.2.2.1 bt360.2.2.2.2.2.2.2.2.1 bt360.2.2.2.2.2.2.2.2.2.1 bt360.2.2.2.2.2.2.2.2.2.2.1 bt360.2.2.2.2.2.2.2.2.2.2.2.1 bt360.2.2.2.2.2.2.2.2.2.2.2.2).bind fun bt373 => ((laws_toHand.f a0_0 a0_1 a0_2 a0_3 a0_4 a0_5 a0_6 a0_7 a0_8 a0_9 a0_10 a0_11 a0_12).bind fun bt375 => ((laws_toHand.f a1_0 a1_1 a1_2 a1_3 a1_4 a1_5 a1_6 a1_7 a1_8 a1_9 a1_10 a1_11 a1_12).bind fun bt388 => ((impl_HandDistance.f k bt375.1 bt375.2.1 bt375.2.2.1 bt375.2.2.2.1 bt375.2.2.2.2.1 bt375.2.2.2.2.2.1 bt375.2.2.2.2.2.2.1 bt375.2.2.2.2.2.2.2.1 bt375.2.2.2.2.2.2.2.2.1 bt375.2.2.2.2.2.2.2.2.2.1 bt375.2.2.2.2.2.2.2.2.2.2.1 bt375.2.2.2.2.2.2.2.2.2.2.2.1 bt375.2.2.2.2.2.2.2.2.2.2.2.2 bt388.1 bt388.2.1 bt388.2.2.1 bt388.2.2.2.1 bt388.2.2.2.2.1 bt388.2.2.2.2.2.1 bt388.2.2.2.2.2.2.1 bt388.2.2.2.2.2.2.2.1 bt388.2.2.2.2.2.2.2.2.1 bt388.2.2.2.2.2.2.2.2.2.1 bt388.2.2.2.2.2.2.2.2.2.2.1 bt388.2.2.2.2.2.2.2.2.2.2.2.1 bt388.2.2.2.2.2.2.2.2.2.2.2.2).bind fun bt401 => (if bt401.1 = bt373.1 then (if (bt401.2 != bt373.2) = true then (none) else (some true)) else (none)))))))))))
theorem laws_FnExactHandDistance.mono : ∀ a0 a1 a2 a3 a4 a5 a6 a7 a8 a9 a10 a11 a12 a13 a14 a15 a16 a17 a18 a19 a20 a21 a22 a23 a24 a25 k, LeO (laws_FnExactHandDistance.f k a0 a1 a2 a3 a4 a5 a6 a7 a8 a9 a10 a11 a12 a13 a14 a15 a16 a17 a18 a19 a20 a21 a22 a23 a24 a25) (laws_FnExactHandDistance.f (k + 1) a0 a1 a2 a3 a4 a5 a6 a7 a8 a9 a10 a11 a12 a13 a14 a15 a16 a17 a18 a19 a20 a21 a22 a23 a24 a25) := by
 intro a0 a1 a2 a3 a4 a5 a6 a7 a8 a9 a10 a11 a12 a13 a14 a15 a16 a17 a18 a19 a20 a21 a22 a23 a24 a25 k
 unfold laws_FnExactHandDistance.f
 repeat' first
   | (with_reducible exact impl_HandDistance.mono _ _ _ _ _ _ _ _ _ _ _ _ _ _ _ _ _ _ _ _ _ _ _ _ _ _ _)
   | (with_reducible exact spec_HandDistance.mono _ _ _ _ _ _ _ _ _ _ _ _ _ _ _ _ _ _ _ _ _ _ _ _ _ _ _)
   | (with_reducible exact LeO.refl _)
   | (with_reducible exact LeO.none _)
   | (with_reducible refine LeO.ite ?_ ?_)
   | (with_reducible refine LeO.bind ?_ (fun _ => ?_))
   | exact LeO.none _
   | refine LeO.ite ?_ ?_
   | refine LeO.bind ?_ (fun _ => ?_)
def laws_FnExactHandDistance.T8 : Bool × List (List Nat × List Nat) := (true, [([], []), ([0], [0]), ([], []), ([2, 1], [2]), ([1, 3, 3], [1, 3]), ([4], [4]), ([5], [5]), ([5], [5]), ([6, 4, 0, 1, 2, 3, 4, 5, 6], [6]), ([7, 8, 0, 1, 2, 3, 4, 5, 6, 7, 8], [7])])
def laws_FnExactHandDistance.B8 : List Nat := [0, 1, 0, 7, 15, 31, 63, 63, 127, 511]
theorem laws_FnExactHandDistance.tab8 : rtab .any (opsOf Try.f5 8) = laws_FnExactHandDistance.T8 := by kernel_rfl
theorem laws_FnExactHandDistance.bits8 : waitsOk laws_FnExactHandDistance.T8.2 laws_FnExactHandDistance.B8 = true := by kernel_rfl
def laws_FnExactHandDistance.T9 : Bool × List (List Nat × List Nat) := (true, [([], []), ([0], [0]), ([], []), ([2, 1], [2]), ([1, 3, 3], [1, 3]), ([4], [4]), ([5], [5]), ([5], [5]), ([6, 4, 0, 1, 2, 3, 4, 5, 6], [6]), ([7, 8, 0, 1, 2, 3, 4, 5, 6, 7, 8], [7])])
def laws_FnExactHandDistance.B9 : List Nat := [0, 1, 0, 7, 15, 31, 63, 63, 127, 511]
theorem laws_FnExactHandDistance.tab9 : rtab .any (opsOf Try.f5 9) = laws_FnExactHandDistance.T9 := by kernel_rfl
theorem laws_FnExactHandDistance.bits9 : waitsOk laws_FnExactHandDistance.T9.2 laws_FnExactHandDistance.B9 = true := by kernel_rfl
set_option maxHeartbeats 8000000 in
set_option maxRecDepth 100000 in
theorem laws_FnExactHandDistance.calls (k : Nat) (a0_0 : Int) (a0_1 : Int) (a0_2 : Int) (a0_3 : Int) (a0_4 : Int) (a0_5 : Bool) (a0_6 : Int) (a0_7 : Int) (a0_8 : Int) (a0_9 : Int) (a0_10 : Bool) (a0_11 : ByteArray) (a0_12 : Int) (a1_0 : Int) (a1_1 : Int) (a1_2 : Int) (a1_3 : Int) (a1_4 : Int) (a1_5 : Bool) (a1_6 : Int) (a1_7 : Int) (a1_8 : Int) (a1_9 : Int) (a1_10 : Bool) (a1_11 : ByteArray) (a1_12 : Int) (r : Bool) (w : World) (h : laws_FnExactHandDistance.f k a0_0 a0_1 a0_2 a0_3 a0_4 a0_5 a0_6 a0_7 a0_8 a0_9 a0_10 a0_11 a0_12 a1_0 a1_1 a1_2 a1_3 a1_4 a1_5 a1_6 a1_7 a1_8 a1_9 a1_10 a1_11 a1_12 = some r) :
  Calls Try.prog 5 #[.agg #[.int .i64 a0_0, .int .i64 a0_1, .int .i64 a0_2, .int .i64 a0_3, .int .i64 a0_4, .bool a0_5, .int .i64 a0_6, .int .i64 a0_7, .int .i64 a0_8, .int .i64 a0_9, .bool a0_10, .string a0_11, .int .i64 a0_12], .agg #[.int .i64 a1_0, .int .i64 a1_1, .int .i64 a1_2, .int .i64 a1_3, .int .i64 a1_4, .bool a1_5, .int .i64 a1_6, .int .i64 a1_7, .int .i64 a1_8, .int .i64 a1_9, .bool a1_10, .string a1_11, .int .i64 a1_12]] w fun e w' => e = .returned (.bool r) ∧ Below w.heap.size w w' := by
 have hu40 := Try.underlying40
 have HB := Aside0.mk (Below.refl w.heap.size w)
 have H : ((laws_szHand.f a0_0 a0_1 a0_2 a0_3 a0_4 a0_5 a0_6 a0_7 a0_8 a0_9 a0_10 a0_11 a0_12 1048576).bind fun t345 => (if t345 < 0 then (some true) else ((laws_szHand.f a1_0 a1_1 a1_2 a1_3 a1_4 a1_5 a1_6 a1_7 a1_8 a1_9 a1_10 a1_11 a1_12 t345).bind fun t346 => (if t346 < 0 then (some true) else ((laws_toHand.f a0_0 a0_1 a0_2 a0_3 a0_4 a0_5 a0_6 a0_7 a0_8 a0_9 a0_10 a0_11 a0_12).bind fun bt347 => ((laws_toHand.f a1_0 a1_1 a1_2 a1_3 a1_4 a1_5 a1_6 a1_7 a1_8 a1_9 a1_10 a1_11 a1_12).bind fun bt360 => ((spec_HandDistance.f k bt347.1 bt347.2.1 bt347.2.2.1 bt347.2.2.2.1 bt347.2.2.2.2.1 bt347.2.2.2.2.2.1 bt347.2.2.2.2.2.2.1 bt347.2.2.2.2.2.2.2.1 bt347.2.2.2.2.2.2.2.2.1 bt347.2.2.2.2.2.2.2.2.2.1 bt347.2.2.2.2.2.2.2.2.2.2.1 bt347.2.2.2.2.2.2.2.2.2.2.2.1 bt347.2.2.2.2.2.2.2.2.2.2.2.2 bt360.1 bt360.2.1 bt360.2.2.1 bt360.2.2.2.1 bt360.2.2.2.2.1 bt360.2.2.2.2.2.1 bt360.2.2.2.2.2.2.1 bt360.2.2.2.2.2.2.2.1 bt360.2.2.2.2.2.2.2.2.1 bt360.2.2.2.2.2.2.2.2.2.1 bt360.2.2.2.2.2.2.2.2.2.2.1 bt360.2.2.2.2.2.2.2.2.2.2.2.1 bt360.2.2.2.2.2.2.2.2.2.2.2.2).bind fun bt373 => ((laws_toHand.f a0_0 a0_1 a0_2 a0_3 a0_4 a0_5 a0_6 a0_7 a0_8 a0_9 a0_10 a0_11 a0_12).bind fun bt375 => ((laws_toHand.f a1_0 a1_1 a1_2 a1_3 a1_4 a1_5 a1_6 a1_7 a1_8 a1_9 a1_10 a1_11 a1_12).bind fun bt388 => ((impl_HandDistance.f k bt375.1 bt375.2.1 bt375.2.2.1 bt375.2.2.2.1 bt375.2.2.2.2.1 bt375.2.2.2.2.2.1 bt375.2.2.2.2.2.2.1 bt375.2.2.2.2.2.2.2.1 bt375.2.2.2.2.2.2.2.2.1 bt375.2.2.2.2.2.2.2.2.2.1 bt375.2.2.2.2.2.2.2.2.2.2.1 bt375.2.2.2.2.2.2.2.2.2.2.2.1 bt375.2.2.2.2.2.2.2.2.2.2.2.2 bt388.1 bt388.2.1 bt388.2.2.1 bt388.2.2.2.1 bt388.2.2.2.2.1 bt388.2.2.2.2.2.1 bt388.2.2.2.2.2.2.1 bt388.2.2.2.2.2.2.2.1 bt388.2.2.2.2.2.2.2.2.1 bt388.2.2.2.2.2.2.2.2.2.1 bt388.2.2.2.2.2.2.2.2.2.2.1 bt388.2.2.2.2.2.2.2.2.2.2.2.1 bt388.2.2.2.2.2.2.2.2.2.2.2.2).bind fun bt401 => (if bt401.1 = bt373.1 then (if (bt401.2 != bt373.2) = true then (none) else (some true)) else (none)))))))))))) = some r := h
 clear h
 replace H := Option.bind_eq_some_iff.mp H
 obtain ⟨t345, A30, H⟩ := H
 try dsimp only at H
 have A3 := Aside0.mk A30
 clear A30
 by_cases c4 : t345 < 0
 ·rw [if_pos c4] at H
  have c4b0 : decide (t345 < 0) = true := decide_eq_true c4
  clear c4
  obtain rfl := Option.some.inj H
  go_enter Try.func5, Try.ntmps5
  go_wp2_with (first | ((with_reducible refine gate_dst (N := 2) rfl ?_); refine box_event ?hg (N := 2) ?hd (cs := #[.int .i64 a0_0, .int .i64 a0_1, .int .i64 a0_2, .int .i64 a0_3, .int .i64 a0_4, .bool a0_5, .int .i64 a0_6, .int .i64 a0_7, .int .i64 a0_8, .int .i64 a0_9, .bool a0_10, .string a0_11, .int .i64 a0_12]) (t := 40) ?hr ?_; (case hd => rfl); (case hg => rfl); (case hr => first | (go_simp; done) | (go_simp; rfl)); intro gb343 hg w5 hbox hb; have n0_ := Aside0.mk (bt_ HB hb); have n1_ := Aside0.mk (hbox); have n2_ := gz_ hg HB; have n3_ := gz_ hg HB; clear HB; have HB := n0_; have BK343 := n1_; have GW343 := n2_; have GE343 := n3_; clear n0_ n1_ n2_ n3_; clear hb hbox hg) | ((with_reducible refine gate_dst (N := 3) rfl ?_); refine box_event ?hg (N := 3) ?hd (cs := #[.int .i64 a1_0, .int .i64 a1_1, .int .i64 a1_2, .int .i64 a1_3, .int .i64 a1_4, .bool a1_5, .int .i64 a1_6, .int .i64 a1_7, .int .i64 a1_8, .int .i64 a1_9, .bool a1_10, .string a1_11, .int .i64 a1_12]) (t := 40) ?hr ?_; (case hd => rfl); (case hg => rfl); (case hr => first | (go_simp; done) | (go_simp; rfl)); intro gb344 hg w6 hbox hb; have n0_ := Aside0.mk (lb_ BK343 hb); have n1_ := Aside0.mk (below_step (bb1_ HB GE343) hb); have n2_ := Aside0.mk (hbox); have n3_ := gy_ hg (bb1_ HB GE343); have n4_ := gy_ hg (bb1_ HB GE343); have n5_ := nl_ hg BK343; have n6_ := ng_ hg BK343; clear BK343; clear HB; have BK343 := n0_; have HB := n1_; have BK344 := n2_; have GW344 := n3_; have GE344 := n4_; have NB343_344 := n5_; have NB344_343 := n6_; clear n0_ n1_ n2_ n3_ n4_ n5_ n6_; clear hb hbox hg; have hnb7 := NB343_344.out; have hnc7 := NB344_343.out; have hcz8_0 := cz0_ BK343; have hcz8_1 := cz1_ BK343; have hcz8_2 := cz2_ BK343; have hcz8_3 := cz3_ BK343; have hcz8_4 : w6.cell? ⟨gb343, 4, none⟩ = some (.int .i64 a0_4) := (blk_cell BK343.out 4).trans rfl; have hcz8_5 : w6.cell? ⟨gb343, 5, none⟩ = some (.bool a0_5) := (blk_cell BK343.out 5).trans rfl; have hcz8_6 : w6.cell? ⟨gb343, 6, none⟩ = some (.int .i64 a0_6) := (blk_cell BK343.out 6).trans rfl; have hcz8_7 : w6.cell? ⟨gb343, 7, none⟩ = some (.int .i64 a0_7) := (blk_cell BK343.out 7).trans rfl; have hcz8_8 : w6.cell? ⟨gb343, 8, none⟩ = some (.int .i64 a0_8) := (blk_cell BK343.out 8).trans rfl; have hcz8_9 : w6.cell? ⟨gb343, 9, none⟩ = some (.int .i64 a0_9) := (blk_cell BK343.out 9).trans rfl; have hcz8_10 : w6.cell? ⟨gb343, 10, none⟩ = some (.bool a0_10) := (blk_cell BK343.out 10).trans rfl; have hcz8_11 : w6.cell? ⟨gb343, 11, none⟩ = some (.string a0_11) := (blk_cell BK343.out 11).trans rfl; have hcz8_12 : w6.cell? ⟨gb343, 12, none⟩ = some (.int .i64 a0_12) := (blk_cell BK343.out 12).trans rfl; have hfz8_0 := fz_ BK343 0; have hfz8_1 := fz_ BK343 1; have hfz8_2 := fz_ BK343 2; have hfz8_3 := fz_ BK343 3; have hfz8_4 := fz_ BK343 4; have hfz8_5 := fz_ BK343 5; have hfz8_6 := fz_ BK343 6; have hfz8_7 := fz_ BK343 7; have hfz8_8 := fz_ BK343 8; have hfz8_9 := fz_ BK343 9; have hfz8_10 := fz_ BK343 10; have hfz8_11 := fz_ BK343 11; have hfz8_12 := fz_ BK343 12) | ((with_reducible refine gate_callee (f := 12) rfl ?_); refine goesL_ (some 12) rfl rfl Try.func12 (by kernel_rfl) rfl #[.agg #[.int .i64 a0_0, .int .i64 a0_1, .int .i64 a0_2, .int .i64 a0_3, .int .i64 a0_4, .bool a0_5, .int .i64 a0_6, .int .i64 a0_7, .int .i64 a0_8, .int .i64 a0_9, .bool a0_10, .string a0_11, .int .i64 a0_12], .int .i64 1048576] rfl args_ ?_; (with_reducible refine (laws_szHand.calls a0_0 a0_1 a0_2 a0_3 a0_4 a0_5 a0_6 a0_7 a0_8 a0_9 a0_10 a0_11 a0_12 1048576 t345 _ A3.out).mono ?_); rintro e w9 ⟨rfl, hb⟩; refine ⟨_, rfl, ?_⟩; have n0_ := Aside0.mk (lb_ BK343 hb); have n1_ := Aside0.mk (lb_ BK344 hb); have n2_ := Aside0.mk (below_step (bb2_ HB GE343 GE344) hb); clear BK343; clear BK344; clear HB; have BK343 := n0_; have BK344 := n1_; have HB := n2_; clear n0_ n1_ n2_; (try clear hb); (try clear hb2); (try clear hk); (try clear hi)))
  go_ret
  exact ⟨by first | rfl | (simp [errW_none, errW_some] <;> rfl) | (simp [*, errW_none, errW_some] <;> rfl), bb2_ HB GE343 GE344⟩
 ·rw [if_neg c4] at H
  have c4b0 : decide (t345 < 0) = false := decide_eq_false c4
  clear c4
  replace H := Option.bind_eq_some_iff.mp H
  obtain ⟨t346, A100, H⟩ := H
  try dsimp only at H
  have A10 := Aside0.mk A100
  clear A100
  by_cases c11 : t346 < 0
  ·rw [if_pos c11] at H
   have c11b0 : decide (t346 < 0) = true := decide_eq_true c11
   clear c11
   obtain rfl := Option.some.inj H
   go_enter Try.func5, Try.ntmps5
   go_wp2_with (first | ((with_reducible refine gate_dst (N := 2) rfl ?_); refine box_event ?hg (N := 2) ?hd (cs := #[.int .i64 a0_0, .int .i64 a0_1, .int .i64 a0_2, .int .i64 a0_3, .int .i64 a0_4, .bool a0_5, .int .i64 a0_6, .int .i64 a0_7, .int .i64 a0_8, .int .i64 a0_9, .bool a0_10, .string a0_11, .int .i64 a0_12]) (t := 40) ?hr ?_; (case hd => rfl); (case hg => rfl); (case hr => first | (go_simp; done) | (go_simp; rfl)); intro gb343 hg w12 hbox hb; have n0_ := Aside0.mk (bt_ HB hb); have n1_ := Aside0.mk (hbox); have n2_ := gz_ hg HB; have n3_ := gz_ hg HB; clear HB; have HB := n0_; have BK343 := n1_; have GW343 := n2_; have GE343 := n3_; clear n0_ n1_ n2_ n3_; clear hb hbox hg) | ((with_reducible refine gate_dst (N := 3) rfl ?_); refine box_event ?hg (N := 3) ?hd (cs := #[.int .i64 a1_0, .int .i64 a1_1, .int .i64 a1_2, .int .i64 a1_3, .int .i64 a1_4, .bool a1_5, .int .i64 a1_6, .int .i64 a1_7, .int .i64 a1_8, .int .i64 a1_9, .bool a1_10, .string a1_11, .int .i64 a1_12]) (t := 40) ?hr ?_; (case hd => rfl); (case hg => rfl); (case hr => first | (go_simp; done) | (go_simp; rfl)); intro gb344 hg w13 hbox hb; have n0_ := Aside0.mk (lb_ BK343 hb); have n1_ := Aside0.mk (below_step (bb1_ HB GE343) hb); have n2_ := Aside0.mk (hbox); have n3_ := gy_ hg (bb1_ HB GE343); have n4_ := gy_ hg (bb1_ HB GE343); have n5_ := nl_ hg BK343; have n6_ := ng_ hg BK343; clear BK343; clear HB; have BK343 := n0_; have HB := n1_; have BK344 := n2_; have GW344 := n3_; have GE344 := n4_; have NB343_344 := n5_; have NB344_343 := n6_; clear n0_ n1_ n2_ n3_ n4_ n5_ n6_; clear hb hbox hg; have hnb14 := NB343_344.out; have hnc14 := NB344_343.out; have hcz15_0 := cz0_ BK343; have hcz15_1 := cz1_ BK343; have hcz15_2 := cz2_ BK343; have hcz15_3 := cz3_ BK343; have hcz15_4 : w13.cell? ⟨gb343, 4, none⟩ = some (.int .i64 a0_4) := (blk_cell BK343.out 4).trans rfl; have hcz15_5 : w13.cell? ⟨gb343, 5, none⟩ = some (.bool a0_5) := (blk_cell BK343.out 5).trans rfl; have hcz15_6 : w13.cell? ⟨gb343, 6, none⟩ = some (.int .i64 a0_6) := (blk_cell BK343.out 6).trans rfl; have hcz15_7 : w13.cell? ⟨gb343, 7, none⟩ = some (.int .i64 a0_7) := (blk_cell BK343.out 7).trans rfl; have hcz15_8 : w13.cell? ⟨gb343, 8, none⟩ = some (.int .i64 a0_8) := (blk_cell BK343.out 8).trans rfl; have hcz15_9 : w13.cell? ⟨gb343, 9, none⟩ = some (.int .i64 a0_9) := (blk_cell BK343.out 9).trans rfl; have hcz15_10 : w13.cell? ⟨gb343, 10, none⟩ = some (.bool a0_10) := (blk_cell BK343.out 10).trans rfl; have hcz15_11 : w13.cell? ⟨gb343, 11, none⟩ = some (.string a0_11) := (blk_cell BK343.out 11).trans rfl; have hcz15_12 : w13.cell? ⟨gb343, 12, none⟩ = some (.int .i64 a0_12) := (blk_cell BK343.out 12).trans rfl; have hfz15_0 := fz_ BK343 0; have hfz15_1 := fz_ BK343 1; have hfz15_2 := fz_ BK343 2; have hfz15_3 := fz_ BK343 3; have hfz15_4 := fz_ BK343 4; have hfz15_5 := fz_ BK343 5; have hfz15_6 := fz_ BK343 6; have hfz15_7 := fz_ BK343 7; have hfz15_8 := fz_ BK343 8; have hfz15_9 := fz_ BK343 9; have hfz15_10 := fz_ BK343 10; have hfz15_11 := fz_ BK343 11; have hfz15_12 := fz_ BK343 12) | ((with_reducible refine gate_callee (f := 12) rfl ?_); refine goesL_ (some 12) rfl rfl Try.func12 (by kernel_rfl) rfl #[.agg #[.int .i64 a0_0, .int .i64 a0_1, .int .i64 a0_2, .int .i64 a0_3, .int .i64 a0_4, .bool a0_5, .int .i64 a0_6, .int .i64 a0_7, .int .i64 a0_8, .int .i64 a0_9, .bool a0_10, .string a0_11, .int .i64 a0_12], .int .i64 1048576] rfl args_ ?_; (with_reducible refine (laws_szHand.calls a0_0 a0_1 a0_2 a0_3 a0_4 a0_5 a0_6 a0_7 a0_8 a0_9 a0_10 a0_11 a0_12 1048576 t345 _ A3.out).mono ?_); rintro e w16 ⟨rfl, hb⟩; refine ⟨_, rfl, ?_⟩; have n0_ := Aside0.mk (lb_ BK343 hb); have n1_ := Aside0.mk (lb_ BK344 hb); have n2_ := Aside0.mk (below_step (bb2_ HB GE343 GE344) hb); clear BK343; clear BK344; clear HB; have BK343 := n0_; have BK344 := n1_; have HB := n2_; clear n0_ n1_ n2_; (try clear hb); (try clear hb2); (try clear hk); (try clear hi); have hcz17_0 := cz0_ BK344; have hcz17_1 := cz1_ BK344; have hcz17_2 := cz2_ BK344; have hcz17_3 := cz3_ BK344; have hcz17_4 : w16.cell? ⟨gb344, 4, none⟩ = some (.int .i64 a1_4) := (blk_cell BK344.out 4).trans rfl; have hcz17_5 : w16.cell? ⟨gb344, 5, none⟩ = some (.bool a1_5) := (blk_cell BK344.out 5).trans rfl; have hcz17_6 : w16.cell? ⟨gb344, 6, none⟩ = some (.int .i64 a1_6) := (blk_cell BK344.out 6).trans rfl; have hcz17_7 : w16.cell? ⟨gb344, 7, none⟩ = some (.int .i64 a1_7) := (blk_cell BK344.out 7).trans rfl; have hcz17_8 : w16.cell? ⟨gb344, 8, none⟩ = some (.int .i64 a1_8) := (blk_cell BK344.out 8).trans rfl; have hcz17_9 : w16.cell? ⟨gb344, 9, none⟩ = some (.int .i64 a1_9) := (blk_cell BK344.out 9).trans rfl; have hcz17_10 : w16.cell? ⟨gb344, 10, none⟩ = some (.bool a1_10) := (blk_cell BK344.out 10).trans rfl; have hcz17_11 : w16.cell? ⟨gb344, 11, none⟩ = some (.string a1_11) := (blk_cell BK344.out 11).trans rfl; have hcz17_12 : w16.cell? ⟨gb344, 12, none⟩ = some (.int .i64 a1_12) := (blk_cell BK344.out 12).trans rfl; have hfz17_0 := fz_ BK344 0; have hfz17_1 := fz_ BK344 1; have hfz17_2 := fz_ BK344 2; have hfz17_3 := fz_ BK344 3; have hfz17_4 := fz_ BK344 4; have hfz17_5 := fz_ BK344 5; have hfz17_6 := fz_ BK344 6; have hfz17_7 := fz_ BK344 7; have hfz17_8 := fz_ BK344 8; have hfz17_9 := fz_ BK344 9; have hfz17_10 := fz_ BK344 10; have hfz17_11 := fz_ BK344 11; have hfz17_12 := fz_ BK344 12) | ((with_reducible refine gate_callee (f := 12) rfl ?_); refine goesL_ (some 17) rfl rfl Try.func12 (by kernel_rfl) rfl #[.agg #[.int .i64 a1_0, .int .i64 a1_1, .int .i64 a1_2, .int .i64 a1_3, .int .i64 a1_4, .bool a1_5, .int .i64 a1_6, .int .i64 a1_7, .int .i64 a1_8, .int .i64 a1_9, .bool a1_10, .string a1_11, .int .i64 a1_12], .int .i64 t345] rfl args_ ?_; (with_reducible refine (laws_szHand.calls a1_0 a1_1 a1_2 a1_3 a1_4 a1_5 a1_6 a1_7 a1_8 a1_9 a1_10 a1_11 a1_12 t345 t346 _ A10.out).mono ?_); rintro e w18 ⟨rfl, hb⟩; refine ⟨_, rfl, ?_⟩; have n0_ := Aside0.mk (lb_ BK343 hb); have n1_ := Aside0.mk (lb_ BK344 hb); have n2_ := Aside0.mk (below_step (bb2_ HB GE343 GE344) hb); clear BK343; clear BK344; clear HB; have BK343 := n0_; have BK344 := n1_; have HB := n2_; clear n0_ n1_ n2_; (try clear hb); (try clear hb2); (try clear hk); (try clear hi)))
   go_ret
   exact ⟨by first | rfl | (simp [errW_none, errW_some] <;> rfl) | (simp [*, errW_none, errW_some] <;> rfl), bb2_ HB GE343 GE344⟩
  ·rw [if_neg c11] at H
   have c11b0 : decide (t346 < 0) = false := decide_eq_false c11
   clear c11
   replace H := Option.bind_eq_some_iff.mp H
   obtain ⟨⟨t347, t348, t349, t350, t351, t352, t353, t354, t355, t356, t357, t358, t359⟩, A190, H⟩ := H
   try dsimp only at H
   have A19 := Aside0.mk A190
   clear A190
   replace H := Option.bind_eq_some_iff.mp H
   obtain ⟨⟨t360, t361, t362, t363, t364, t365, t366, t367, t368, t369, t370, t371, t372⟩, A200, H⟩ := H
   try dsimp only at H
   have A20 := Aside0.mk A200
   clear A200
   replace H := Option.bind_eq_some_iff.mp H
   obtain ⟨⟨t373, t374⟩, A210, H⟩ := H
   try dsimp only at H
   have A21 := Aside0.mk A210
   clear A210
   replace H := Option.bind_eq_some_iff.mp H
   obtain ⟨⟨t375, t376, t377, t378, t379, t380, t381, t382, t383, t384, t385, t386, t387⟩, A220, H⟩ := H
   try dsimp only at H
   have A22 := Aside0.mk A220
   clear A220
   replace H := Option.bind_eq_some_iff.mp H
   obtain ⟨⟨t388, t389, t390, t391, t392, t393, t394, t395, t396, t397, t398, t399, t400⟩, A230, H⟩ := H
   try dsimp only at H
   have A23 := Aside0.mk A230
   clear A230
   replace H := Option.bind_eq_some_iff.mp H
   obtain ⟨⟨t401, t402⟩, A240, H⟩ := H
   try dsimp only at H
   have A24 := Aside0.mk A240
   clear A240
   by_cases c25 : t401 = t373
   ·rw [if_pos c25] at H
    have c25b0 : (t401 == t373) = true := beq_iff_eq.mpr c25
    have c25b1 : (t401 != t373) = false := bne_eq_false_iff_eq.mpr c25
    clear c25
    by_cases c26 : (t402 != t374) = true
    ·rw [if_pos c26] at H
     exact absurd H (by simp)
    ·rw [if_neg c26] at H
     have c26b0 : (t402 != t374) = false := by simpa using c26
     (try (have c26b1 : decide (t402 = t374) = true := by simpa using c26))
     (try (have c26b2 : (t402 == t374) = true := by simpa using c26))
     clear c26
     obtain rfl := Option.some.inj H
     go_enter Try.func5, Try.ntmps5
     try go_wp2_with (first | ((with_reducible refine gate_dst (N := 2) rfl ?_); refine box_event ?hg (N := 2) ?hd (cs := #[.int .i64 a0_0, .int .i64 a0_1, .int .i64 a0_2, .int .i64 a0_3, .int .i64 a0_4, .bool a0_5, .int .i64 a0_6, .int .i64 a0_7, .int .i64 a0_8, .int .i64 a0_9, .bool a0_10, .string a0_11, .int .i64 a0_12]) (t := 40) ?hr ?_; (case hd => rfl); (case hg => rfl); (case hr => first | (go_simp; done) | (go_simp; rfl)); intro gb343 hg w27 hbox hb; have n0_ := Aside0.mk (bt_ HB hb); have n1_ := Aside0.mk (hbox); have n2_ := gz_ hg HB; have n3_ := gz_ hg HB; clear HB; have HB := n0_; have BK343 := n1_; have GW343 := n2_; have GE343 := n3_; clear n0_ n1_ n2_ n3_; clear hb hbox hg) | ((with_reducible refine gate_dst (N := 3) rfl ?_); refine box_event ?hg (N := 3) ?hd (cs := #[.int .i64 a1_0, .int .i64 a1_1, .int .i64 a1_2, .int .i64 a1_3, .int .i64 a1_4, .bool a1_5, .int .i64 a1_6, .int .i64 a1_7, .int .i64 a1_8, .int .i64 a1_9, .bool a1_10, .string a1_11, .int .i64 a1_12]) (t := 40) ?hr ?_; (case hd => rfl); (case hg => rfl); (case hr => first | (go_simp; done) | (go_simp; rfl)); intro gb344 hg w28 hbox hb; have n0_ := Aside0.mk (lb_ BK343 hb); have n1_ := Aside0.mk (below_step (bb1_ HB GE343) hb); have n2_ := Aside0.mk (hbox); have n3_ := gy_ hg (bb1_ HB GE343); have n4_ := gy_ hg (bb1_ HB GE343); have n5_ := nl_ hg BK343; have n6_ := ng_ hg BK343; clear BK343; clear HB; have BK343 := n0_; have HB := n1_; have BK344 := n2_; have GW344 := n3_; have GE344 := n4_; have NB343_344 := n5_; have NB344_343 := n6_; clear n0_ n1_ n2_ n3_ n4_ n5_ n6_; clear hb hbox hg; have hnb29 := NB343_344.out; have hnc29 := NB344_343.out; have hcz30_0 := cz0_ BK343; have hcz30_1 := cz1_ BK343; have hcz30_2 := cz2_ BK343; have hcz30_3 := cz3_ BK343; have hcz30_4 : w28.cell? ⟨gb343, 4, none⟩ = some (.int .i64 a0_4) := (blk_cell BK343.out 4).trans rfl; have hcz30_5 : w28.cell? ⟨gb343, 5, none⟩ = some (.bool a0_5) := (blk_cell BK343.out 5).trans rfl; have hcz30_6 : w28.cell? ⟨gb343, 6, none⟩ = some (.int .i64 a0_6) := (blk_cell BK343.out 6).trans rfl; have hcz30_7 : w28.cell? ⟨gb343, 7, none⟩ = some (.int .i64 a0_7) := (blk_cell BK343.out 7).trans rfl; have hcz30_8 : w28.cell? ⟨gb343, 8, none⟩ = some (.int .i64 a0_8) := (blk_cell BK343.out 8).trans rfl; have hcz30_9 : w28.cell? ⟨gb343, 9, none⟩ = some (.int .i64 a0_9) := (blk_cell BK343.out 9).trans rfl; have hcz30_10 : w28.cell? ⟨gb343, 10, none⟩ = some (.bool a0_10) := (blk_cell BK343.out 10).trans rfl; have hcz30_11 : w28.cell? ⟨gb343, 11, none⟩ = some (.string a0_11) := (blk_cell BK343.out 11).trans rfl; have hcz30_12 : w28.cell? ⟨gb343, 12, none⟩ = some (.int .i64 a0_12) := (blk_cell BK343.out 12).trans rfl; have hfz30_0 := fz_ BK343 0; have hfz30_1 := fz_ BK343 1; have hfz30_2 := fz_ BK343 2; have hfz30_3 := fz_ BK343 3; have hfz30_4 := fz_ BK343 4; have hfz30_5 := fz_ BK343 5; have hfz30_6 := fz_ BK343 6; have hfz30_7 := fz_ BK343 7; have hfz30_8 := fz_ BK343 8; have hfz30_9 := fz_ BK343 9; have hfz30_10 := fz_ BK343 10; have hfz30_11 := fz_ BK343 11; have hfz30_12 := fz_ BK343 12) | ((with_reducible refine gate_callee (f := 12) rfl ?_); refine goesL_ (some 12) rfl rfl Try.func12 (by kernel_rfl) rfl #[.agg #[.int .i64 a0_0, .int .i64 a0_1, .int .i64 a0_2, .int .i64 a0_3, .int .i64 a0_4, .bool a0_5, .int .i64 a0_6, .int .i64 a0_7, .int .i64 a0_8, .int .i64 a0_9, .bool a0_10, .string a0_11, .int .i64 a0_12], .int .i64 1048576] rfl args_ ?_; (with_reducible refine (laws_szHand.calls a0_0 a0_1 a0_2 a0_3 a0_4 a0_5 a0_6 a0_7 a0_8 a0_9 a0_10 a0_11 a0_12 1048576 t345 _ A3.out).mono ?_); rintro e w31 ⟨rfl, hb⟩; refine ⟨_, rfl, ?_⟩; have n0_ := Aside0.mk (lb_ BK343 hb); have n1_ := Aside0.mk (lb_ BK344 hb); have n2_ := Aside0.mk (below_step (bb2_ HB GE343 GE344) hb); clear BK343; clear BK344; clear HB; have BK343 := n0_; have BK344 := n1_; have HB := n2_; clear n0_ n1_ n2_; (try clear hb); (try clear hb2); (try clear hk); (try clear hi); have hcz32_0 := cz0_ BK344; have hcz32_1 := cz1_ BK344; have hcz32_2 := cz2_ BK344; have hcz32_3 := cz3_ BK344; have hcz32_4 : w31.cell? ⟨gb344, 4, none⟩ = some (.int .i64 a1_4) := (blk_cell BK344.out 4).trans rfl; have hcz32_5 : w31.cell? ⟨gb344, 5, none⟩ = some (.bool a1_5) := (blk_cell BK344.out 5).trans rfl; have hcz32_6 : w31.cell? ⟨gb344, 6, none⟩ = some (.int .i64 a1_6) := (blk_cell BK344.out 6).trans rfl; have hcz32_7 : w31.cell? ⟨gb344, 7, none⟩ = some (.int .i64 a1_7) := (blk_cell BK344.out 7).trans rfl; have hcz32_8 : w31.cell? ⟨gb344, 8, none⟩ = some (.int .i64 a1_8) := (blk_cell BK344.out 8).trans rfl; have hcz32_9 : w31.cell? ⟨gb344, 9, none⟩ = some (.int .i64 a1_9) := (blk_cell BK344.out 9).trans rfl; have hcz32_10 : w31.cell? ⟨gb344, 10, none⟩ = some (.bool a1_10) := (blk_cell BK344.out 10).trans rfl; have hcz32_11 : w31.cell? ⟨gb344, 11, none⟩ = some (.string a1_11) := (blk_cell BK344.out 11).trans rfl; have hcz32_12 : w31.cell? ⟨gb344, 12, none⟩ = some (.int .i64 a1_12) := (blk_cell BK344.out 12).trans rfl; have hfz32_0 := fz_ BK344 0; have hfz32_1 := fz_ BK344 1; have hfz32_2 := fz_ BK344 2; have hfz32_3 := fz_ BK344 3; have hfz32_4 := fz_ BK344 4; have hfz32_5 := fz_ BK344 5; have hfz32_6 := fz_ BK344 6; have hfz32_7 := fz_ BK344 7; have hfz32_8 := fz_ BK344 8; have hfz32_9 := fz_ BK344 9; have hfz32_10 := fz_ BK344 10; have hfz32_11 := fz_ BK344 11; have hfz32_12 := fz_ BK344 12) | ((with_reducible refine gate_callee (f := 12) rfl ?_); refine goesL_ (some 17) rfl rfl Try.func12 (by kernel_rfl) rfl #[.agg #[.int .i64 a1_0, .int .i64 a1_1, .int .i64 a1_2, .int .i64 a1_3, .int .i64 a1_4, .bool a1_5, .int .i64 a1_6, .int .i64 a1_7, .int .i64 a1_8, .int .i64 a1_9, .bool a1_10, .string a1_11, .int .i64 a1_12], .int .i64 t345] rfl args_ ?_; (with_reducible refine (laws_szHand.calls a1_0 a1_1 a1_2 a1_3 a1_4 a1_5 a1_6 a1_7 a1_8 a1_9 a1_10 a1_11 a1_12 t345 t346 _ A10.out).mono ?_); rintro e w33 ⟨rfl, hb⟩; refine ⟨_, rfl, ?_⟩; have n0_ := Aside0.mk (lb_ BK343 hb); have n1_ := Aside0.mk (lb_ BK344 hb); have n2_ := Aside0.mk (below_step (bb2_ HB GE343 GE344) hb); clear BK343; clear BK344; clear HB; have BK343 := n0_; have BK344 := n1_; have HB := n2_; clear n0_ n1_ n2_; (try clear hb); (try clear hb2); (try clear hk); (try clear hi)))
     have n0_ := Aside0.mk (blk_drew BK343.out)
     have n1_ := Aside0.mk (blk_drew BK344.out)
     have n2_ := Aside0.mk (below_drew1 HB.out)
     clear BK343
     clear BK344
     clear HB
     have BK343 := n0_
     have BK344 := n1_
     have HB := n2_
     clear n0_ n1_ n2_
     refine start_ (n := 10) (S := fun w' => w'.cell? ⟨gb343, 0, none⟩ = some (.int .i64 a0_0) ∧ w'.cell? ⟨gb343, 1, none⟩ = some (.int .i64 a0_1) ∧ w'.cell? ⟨gb343, 2, none⟩ = some (.int .i64 a0_2) ∧ w'.cell? ⟨gb343, 3, none⟩ = some (.int .i64 a0_3) ∧ w'.cell? ⟨gb343, 4, none⟩ = some (.int .i64 a0_4) ∧ w'.cell? ⟨gb343, 5, none⟩ = some (.bool a0_5) ∧ w'.cell? ⟨gb343, 6, none⟩ = some (.int .i64 a0_6) ∧ w'.cell? ⟨gb343, 7, none⟩ = some (.int .i64 a0_7) ∧ w'.cell? ⟨gb343, 8, none⟩ = some (.int .i64 a0_8) ∧ w'.cell? ⟨gb343, 9, none⟩ = some (.int .i64 a0_9) ∧ w'.cell? ⟨gb343, 10, none⟩ = some (.bool a0_10) ∧ w'.cell? ⟨gb343, 11, none⟩ = some (.string a0_11) ∧ w'.cell? ⟨gb343, 12, none⟩ = some (.int .i64 a0_12) ∧ w'.cell? ⟨gb344, 0, none⟩ = some (.int .i64 a1_0) ∧ w'.cell? ⟨gb344, 1, none⟩ = some (.int .i64 a1_1) ∧ w'.cell? ⟨gb344, 2, none⟩ = some (.int .i64 a1_2) ∧ w'.cell? ⟨gb344, 3, none⟩ = some (.int .i64 a1_3) ∧ w'.cell? ⟨gb344, 4, none⟩ = some (.int .i64 a1_4) ∧ w'.cell? ⟨gb344, 5, none⟩ = some (.bool a1_5) ∧ w'.cell? ⟨gb344, 6, none⟩ = some (.int .i64 a1_6) ∧ w'.cell? ⟨gb344, 7, none⟩ = some (.int .i64 a1_7) ∧ w'.cell? ⟨gb344, 8, none⟩ = some (.int .i64 a1_8) ∧ w'.cell? ⟨gb344, 9, none⟩ = some (.int .i64 a1_9) ∧ w'.cell? ⟨gb344, 10, none⟩ = some (.bool a1_10) ∧ w'.cell? ⟨gb344, 11, none⟩ = some (.string a1_11) ∧ w'.cell? ⟨gb344, 12, none⟩ = some (.int .i64 a1_12)) (ds := []) #[false, false, false, false, false, false, false, false, false, false] (by kernel_rfl) rfl rfl ⟨(blk_cell BK343.out 0).trans rfl, (blk_cell BK343.out 1).trans rfl, (blk_cell BK343.out 2).trans rfl, (blk_cell BK343.out 3).trans rfl, (blk_cell BK343.out 4).trans rfl, (blk_cell BK343.out 5).trans rfl, (blk_cell BK343.out 6).trans rfl, (blk_cell BK343.out 7).trans rfl, (blk_cell BK343.out 8).trans rfl, (blk_cell BK343.out 9).trans rfl, (blk_cell BK343.out 10).trans rfl, (blk_cell BK343.out 11).trans rfl, (blk_cell BK343.out 12).trans rfl, (blk_cell BK344.out 0).trans rfl, (blk_cell BK344.out 1).trans rfl, (blk_cell BK344.out 2).trans rfl, (blk_cell BK344.out 3).trans rfl, (blk_cell BK344.out 4).trans rfl, (blk_cell BK344.out 5).trans rfl, (blk_cell BK344.out 6).trans rfl, (blk_cell BK344.out 7).trans rfl, (blk_cell BK344.out 8).trans rfl, (blk_cell BK344.out 9).trans rfl, (blk_cell BK344.out 10).trans rfl, (blk_cell BK344.out 11).trans rfl, (blk_cell BK344.out 12).trans rfl⟩ (fun hHeld => ?_); refine with_tabW laws_FnExactHandDistance.tab8 laws_FnExactHandDistance.bits8 (fun HT_ HW_ => ?_)
     generalize w33.drew = w34 at BK343 BK344 HB hHeld ⊢
     refine take_ (i := 0) (N := some 21) (v := ?_) (a' := ?_) #[true, false, false, false, false, false, false, false, false, false] rfl rfl (take_ofW HT_.out HW_.out (by kernel_rfl)) (fun _ _ _ h => h) (Or.inl ⟨by rfl, ?_⟩) hHeld ?_ ?_
     rotate_left
     ·rintro w' ⟨s0, s1, s2, s3, s4, s5, s6, s7, s8, s9, s10, s11, s12, s13, s14, s15, s16, s17, s18, s19, s20, s21, s22, s23, s24, s25⟩
      go_simp
      with_reducible rfl
     rotate_left
     ·simp only [Act.put, sA_, sB_, sC_, i64_w, i32_w]
      rfl
     refine take_ (i := 2) (N := some 23) (v := ?_) (a' := ?_) #[true, false, true, false, false, false, false, false, false, false] rfl rfl (take_ofW HT_.out HW_.out (by kernel_rfl)) (fun _ _ _ h => h) (Or.inl ⟨by rfl, ?_⟩) hHeld ?_ ?_
     rotate_left
     ·rintro w' ⟨s0, s1, s2, s3, s4, s5, s6, s7, s8, s9, s10, s11, s12, s13, s14, s15, s16, s17, s18, s19, s20, s21, s22, s23, s24, s25⟩
      go_simp
      with_reducible rfl
     rotate_left
     ·simp only [Act.put, sA_, sB_, sC_, i64_w, i32_w]
      rfl
     refine one_ (i := 1) (N := some 22) #[true, true, true, false, false, false, false, false, false, false] rfl rfl (one_of HT_.out (by kernel_rfl)) (by decide) (fun K hK => ?_)
     refine goes_ Try.func14 (by kernel_rfl) rfl #[.agg #[.int .i64 a0_0, .int .i64 a0_1, .int .i64 a0_2, .int .i64 a0_3, .int .i64 a0_4, .bool a0_5, .int .i64 a0_6, .int .i64 a0_7, .int .i64 a0_8, .int .i64 a0_9, .bool a0_10, .string a0_11, .int .i64 a0_12]] (by rfl) rfl rfl args_ ?_
     with_reducible refine (laws_toHand.calls a0_0 a0_1 a0_2 a0_3 a0_4 a0_5 a0_6 a0_7 a0_8 a0_9 a0_10 a0_11 a0_12 t347 t348 t349 t350 t351 t352 t353 t354 t355 t356 t357 t358 t359 _ A19.out).mono ?_
     rintro e w35 ⟨rfl, hb⟩
     refine ⟨_, rfl, ?_⟩
     have n0_ := Aside0.mk (lb_ BK343 hb)
     have n1_ := Aside0.mk (lb_ BK344 hb)
     have n2_ := Aside0.mk (below_step (bb2_ HB GE343 GE344) hb)
     clear BK343
     clear BK344
     clear HB
     have BK343 := n0_
     have BK344 := n1_
     have HB := n2_
     clear n0_ n1_ n2_
     (try clear hb)
     (try clear hb2)
     (try clear hk)
     (try clear hi)
     refine hK.out _ _ ⟨(blk_cell BK343.out 0).trans rfl, (blk_cell BK343.out 1).trans rfl, (blk_cell BK343.out 2).trans rfl, (blk_cell BK343.out 3).trans rfl, (blk_cell BK343.out 4).trans rfl, (blk_cell BK343.out 5).trans rfl, (blk_cell BK343.out 6).trans rfl, (blk_cell BK343.out 7).trans rfl, (blk_cell BK343.out 8).trans rfl, (blk_cell BK343.out 9).trans rfl, (blk_cell BK343.out 10).trans rfl, (blk_cell BK343.out 11).trans rfl, (blk_cell BK343.out 12).trans rfl, (blk_cell BK344.out 0).trans rfl, (blk_cell BK344.out 1).trans rfl, (blk_cell BK344.out 2).trans rfl, (blk_cell BK344.out 3).trans rfl, (blk_cell BK344.out 4).trans rfl, (blk_cell BK344.out 5).trans rfl, (blk_cell BK344.out 6).trans rfl, (blk_cell BK344.out 7).trans rfl, (blk_cell BK344.out 8).trans rfl, (blk_cell BK344.out 9).trans rfl, (blk_cell BK344.out 10).trans rfl, (blk_cell BK344.out 11).trans rfl, (blk_cell BK344.out 12).trans rfl⟩ (fun hHeld => ?_)
     clear hK K
     refine norm_ (a' := ?_) ?_ ?_
     rotate_left
     ·show Act.put _ (some 22) _ = _
      simp only [Act.put, sA_, sB_, sC_, i64_w, i32_w]
      rfl
     refine one_ (i := 3) (N := some 24) #[true, true, true, true, false, false, false, false, false, false] rfl rfl (one_of HT_.out (by kernel_rfl)) (by decide) (fun K hK => ?_)
     refine goes_ Try.func14 (by kernel_rfl) rfl #[.agg #[.int .i64 a1_0, .int .i64 a1_1, .int .i64 a1_2, .int .i64 a1_3, .int .i64 a1_4, .bool a1_5, .int .i64 a1_6, .int .i64 a1_7, .int .i64 a1_8, .int .i64 a1_9, .bool a1_10, .string a1_11, .int .i64 a1_12]] (by rfl) rfl rfl args_ ?_
     with_reducible refine (laws_toHand.calls a1_0 a1_1 a1_2 a1_3 a1_4 a1_5 a1_6 a1_7 a1_8 a1_9 a1_10 a1_11 a1_12 t360 t361 t362 t363 t364 t365 t366 t367 t368 t369 t370 t371 t372 _ A20.out).mono ?_
     rintro e w36 ⟨rfl, hb⟩
     refine ⟨_, rfl, ?_⟩
     have n0_ := Aside0.mk (lb_ BK343 hb)
     have n1_ := Aside0.mk (lb_ BK344 hb)
     have n2_ := Aside0.mk (below_step (bb2_ HB GE343 GE344) hb)
     clear BK343
     clear BK344
     clear HB
     have BK343 := n0_
     have BK344 := n1_
     have HB := n2_
     clear n0_ n1_ n2_
     (try clear hb)
     (try clear hb2)
     (try clear hk)
     (try clear hi)
     refine hK.out _ _ ⟨(blk_cell BK343.out 0).trans rfl, (blk_cell BK343.out 1).trans rfl, (blk_cell BK343.out 2).trans rfl, (blk_cell BK343.out 3).trans rfl, (blk_cell BK343.out 4).trans rfl, (blk_cell BK343.out 5).trans rfl, (blk_cell BK343.out 6).trans rfl, (blk_cell BK343.out 7).trans rfl, (blk_cell BK343.out 8).trans rfl, (blk_cell BK343.out 9).trans rfl, (blk_cell BK343.out 10).trans rfl, (blk_cell BK343.out 11).trans rfl, (blk_cell BK343.out 12).trans rfl, (blk_cell BK344.out 0).trans rfl, (blk_cell BK344.out 1).trans rfl, (blk_cell BK344.out 2).trans rfl, (blk_cell BK344.out 3).trans rfl, (blk_cell BK344.out 4).trans rfl, (blk_cell BK344.out 5).trans rfl, (blk_cell BK344.out 6).trans rfl, (blk_cell BK344.out 7).trans rfl, (blk_cell BK344.out 8).trans rfl, (blk_cell BK344.out 9).trans rfl, (blk_cell BK344.out 10).trans rfl, (blk_cell BK344.out 11).trans rfl, (blk_cell BK344.out 12).trans rfl⟩ (fun hHeld => ?_)
     clear hK K
     refine norm_ (a' := ?_) ?_ ?_
     rotate_left
     ·show Act.put _ (some 24) _ = _
      simp only [Act.put, sA_, sB_, sC_, i64_w, i32_w]
      rfl
     refine one_ (i := 4) (N := some 25) #[true, true, true, true, true, false, false, false, false, false] rfl rfl (one_of HT_.out (by kernel_rfl)) (by decide) (fun K hK => ?_)
     refine goes_ Try.func13 (by kernel_rfl) rfl #[.agg #[.int .i64 t347, .int .i64 t348, .int .i64 t349, .int .i64 t350, .int .i64 t351, .bool t352, .int .i64 t353, .int .i64 t354, .int .i64 t355, .int .i64 t356, .bool t357, .string t358, .int .i64 t359], .agg #[.int .i64 t360, .int .i64 t361, .int .i64 t362, .int .i64 t363, .int .i64 t364, .bool t365, .int .i64 t366, .int .i64 t367, .int .i64 t368, .int .i64 t369, .bool t370, .string t371, .int .i64 t372]] (by rfl) rfl rfl args_ ?_
     with_reducible refine (spec_HandDistance.calls k t347 t348 t349 t350 t351 t352 t353 t354 t355 t356 t357 t358 t359 t360 t361 t362 t363 t364 t365 t366 t367 t368 t369 t370 t371 t372 t373 t374 _ A21.out).mono ?_
     rintro e w37 ⟨rfl, hb⟩
     refine ⟨_, rfl, ?_⟩
     have n0_ := Aside0.mk (lb_ BK343 hb)
     have n1_ := Aside0.mk (lb_ BK344 hb)
     have n2_ := Aside0.mk (below_step (bb2_ HB GE343 GE344) hb)
     clear BK343
     clear BK344
     clear HB
     have BK343 := n0_
     have BK344 := n1_
     have HB := n2_
     clear n0_ n1_ n2_
     (try clear hb)
     (try clear hb2)
     (try clear hk)
     (try clear hi)
     refine hK.out _ _ ⟨(blk_cell BK343.out 0).trans rfl, (blk_cell BK343.out 1).trans rfl, (blk_cell BK343.out 2).trans rfl, (blk_cell BK343.out 3).trans rfl, (blk_cell BK343.out 4).trans rfl, (blk_cell BK343.out 5).trans rfl, (blk_cell BK343.out 6).trans rfl, (blk_cell BK343.out 7).trans rfl, (blk_cell BK343.out 8).trans rfl, (blk_cell BK343.out 9).trans rfl, (blk_cell BK343.out 10).trans rfl, (blk_cell BK343.out 11).trans rfl, (blk_cell BK343.out 12).trans rfl, (blk_cell BK344.out 0).trans rfl, (blk_cell BK344.out 1).trans rfl, (blk_cell BK344.out 2).trans rfl, (blk_cell BK344.out 3).trans rfl, (blk_cell BK344.out 4).trans rfl, (blk_cell BK344.out 5).trans rfl, (blk_cell BK344.out 6).trans rfl, (blk_cell BK344.out 7).trans rfl, (blk_cell BK344.out 8).trans rfl, (blk_cell BK344.out 9).trans rfl, (blk_cell BK344.out 10).trans rfl, (blk_cell BK344.out 11).trans rfl, (blk_cell BK344.out 12).trans rfl⟩ (fun hHeld => ?_)
     clear hK K
     refine norm_ (a' := ?_) ?_ ?_
     rotate_left
     ·show Act.put _ (some 25) _ = _
      simp only [Act.put, sA_, sB_, sC_, i64_w, i32_w]
      rfl
     refine pu_ (i := 5) (N := some 20) (v := ?_) (a' := ?_) #[true, true, true, true, true, true, false, false, false, false] rfl rfl (Or.inl ⟨by rfl, ?_⟩) ?_ ?_
     rotate_left
     ·intro w'
      go_simp
      with_reducible rfl
     rotate_left
     ·simp only [Act.put, sA_, sB_, sC_, i64_w, i32_w]
      rfl
     refine pu_ (i := 6) (N := some 26) (v := ?_) (a' := ?_) #[true, true, true, true, true, true, true, false, false, false] rfl rfl (Or.inl ⟨by rfl, ?_⟩) ?_ ?_
     rotate_left
     ·intro w'
      go_simp
      with_reducible rfl
     rotate_left
     ·simp only [Act.put, sA_, sB_, sC_, i64_w, i32_w]
      rfl
     refine pu_ (i := 7) (N := some 27) (v := ?_) (a' := ?_) #[true, true, true, true, true, true, true, true, false, false] rfl rfl (Or.inl ⟨by rfl, ?_⟩) ?_ ?_
     rotate_left
     ·intro w'
      go_simp
      with_reducible rfl
     rotate_left
     ·simp only [Act.put, sA_, sB_, sC_, i64_w, i32_w]
      rfl
     refine pu_ (i := 8) (N := some 6) (v := ?_) (a' := ?_) #[true, true, true, true, true, true, true, true, true, false] rfl rfl (Or.inl ⟨by rfl, ?_⟩) ?_ ?_
     rotate_left
     ·intro w'
      go_simp
      with_reducible rfl
     rotate_left
     ·simp only [Act.put, sA_, sB_, sC_, i64_w, i32_w]
      rfl
     refine pu_ (i := 9) (N := some 7) (v := ?_) (a' := ?_) #[true, true, true, true, true, true, true, true, true, true] rfl rfl (Or.inl ⟨by rfl, ?_⟩) ?_ ?_
     rotate_left
     ·intro w'
      go_simp
      with_reducible rfl
     rotate_left
     ·simp only [Act.put, sA_, sB_, sC_, i64_w, i32_w]
      rfl
     refine done_ (done_of HT_.out (by kernel_rfl)) ?_
     try go_wp2
     have n0_ := Aside0.mk (blk_drew BK343.out)
     have n1_ := Aside0.mk (blk_drew BK344.out)
     have n2_ := Aside0.mk (below_drew1 HB.out)
     clear BK343
     clear BK344
     clear HB
     have BK343 := n0_
     have BK344 := n1_
     have HB := n2_
     clear n0_ n1_ n2_
     refine start_ (n := 10) (S := fun w' => w'.cell? ⟨gb343, 0, none⟩ = some (.int .i64 a0_0) ∧ w'.cell? ⟨gb343, 1, none⟩ = some (.int .i64 a0_1) ∧ w'.cell? ⟨gb343, 2, none⟩ = some (.int .i64 a0_2) ∧ w'.cell? ⟨gb343, 3, none⟩ = some (.int .i64 a0_3) ∧ w'.cell? ⟨gb343, 4, none⟩ = some (.int .i64 a0_4) ∧ w'.cell? ⟨gb343, 5, none⟩ = some (.bool a0_5) ∧ w'.cell? ⟨gb343, 6, none⟩ = some (.int .i64 a0_6) ∧ w'.cell? ⟨gb343, 7, none⟩ = some (.int .i64 a0_7) ∧ w'.cell? ⟨gb343, 8, none⟩ = some (.int .i64 a0_8) ∧ w'.cell? ⟨gb343, 9, none⟩ = some (.int .i64 a0_9) ∧ w'.cell? ⟨gb343, 10, none⟩ = some (.bool a0_10) ∧ w'.cell? ⟨gb343, 11, none⟩ = some (.string a0_11) ∧ w'.cell? ⟨gb343, 12, none⟩ = some (.int .i64 a0_12) ∧ w'.cell? ⟨gb344, 0, none⟩ = some (.int .i64 a1_0) ∧ w'.cell? ⟨gb344, 1, none⟩ = some (.int .i64 a1_1) ∧ w'.cell? ⟨gb344, 2, none⟩ = some (.int .i64 a1_2) ∧ w'.cell? ⟨gb344, 3, none⟩ = some (.int .i64 a1_3) ∧ w'.cell? ⟨gb344, 4, none⟩ = some (.int .i64 a1_4) ∧ w'.cell? ⟨gb344, 5, none⟩ = some (.bool a1_5) ∧ w'.cell? ⟨gb344, 6, none⟩ = some (.int .i64 a1_6) ∧ w'.cell? ⟨gb344, 7, none⟩ = some (.int .i64 a1_7) ∧ w'.cell? ⟨gb344, 8, none⟩ = some (.int .i64 a1_8) ∧ w'.cell? ⟨gb344, 9, none⟩ = some (.int .i64 a1_9) ∧ w'.cell? ⟨gb344, 10, none⟩ = some (.bool a1_10) ∧ w'.cell? ⟨gb344, 11, none⟩ = some (.string a1_11) ∧ w'.cell? ⟨gb344, 12, none⟩ = some (.int .i64 a1_12)) (ds := []) #[false, false, false, false, false, false, false, false, false, false] (by kernel_rfl) rfl rfl ⟨(blk_cell BK343.out 0).trans rfl, (blk_cell BK343.out 1).trans rfl, (blk_cell BK343.out 2).trans rfl, (blk_cell BK343.out 3).trans rfl, (blk_cell BK343.out 4).trans rfl, (blk_cell BK343.out 5).trans rfl, (blk_cell BK343.out 6).trans rfl, (blk_cell BK343.out 7).trans rfl, (blk_cell BK343.out 8).trans rfl, (blk_cell BK343.out 9).trans rfl, (blk_cell BK343.out 10).trans rfl, (blk_cell BK343.out 11).trans rfl, (blk_cell BK343.out 12).trans rfl, (blk_cell BK344.out 0).trans rfl, (blk_cell BK344.out 1).trans rfl, (blk_cell BK344.out 2).trans rfl, (blk_cell BK344.out 3).trans rfl, (blk_cell BK344.out 4).trans rfl, (blk_cell BK344.out 5).trans rfl, (blk_cell BK344.out 6).trans rfl, (blk_cell BK344.out 7).trans rfl, (blk_cell BK344.out 8).trans rfl, (blk_cell BK344.out 9).trans rfl, (blk_cell BK344.out 10).trans rfl, (blk_cell BK344.out 11).trans rfl, (blk_cell BK344.out 12).trans rfl⟩ (fun hHeld => ?_); refine with_tabW laws_FnExactHandDistance.tab9 laws_FnExactHandDistance.bits9 (fun HT_ HW_ => ?_)
     generalize w37.drew = w38 at BK343 BK344 HB hHeld ⊢
     refine take_ (i := 0) (N := some 29) (v := ?_) (a' := ?_) #[true, false, false, false, false, false, false, false, false, false] rfl rfl (take_ofW HT_.out HW_.out (by kernel_rfl)) (fun _ _ _ h => h) (Or.inl ⟨by rfl, ?_⟩) hHeld ?_ ?_
     rotate_left
     ·rintro w' ⟨s0, s1, s2, s3, s4, s5, s6, s7, s8, s9, s10, s11, s12, s13, s14, s15, s16, s17, s18, s19, s20, s21, s22, s23, s24, s25⟩
      go_simp
      with_reducible rfl
     rotate_left
     ·simp only [Act.put, sA_, sB_, sC_, i64_w, i32_w]
      rfl
     refine take_ (i := 2) (N := some 31) (v := ?_) (a' := ?_) #[true, false, true, false, false, false, false, false, false, false] rfl rfl (take_ofW HT_.out HW_.out (by kernel_rfl)) (fun _ _ _ h => h) (Or.inl ⟨by rfl, ?_⟩) hHeld ?_ ?_
     rotate_left
     ·rintro w' ⟨s0, s1, s2, s3, s4, s5, s6, s7, s8, s9, s10, s11, s12, s13, s14, s15, s16, s17, s18, s19, s20, s21, s22, s23, s24, s25⟩
      go_simp
      with_reducible rfl
     rotate_left
     ·simp only [Act.put, sA_, sB_, sC_, i64_w, i32_w]
      rfl
     refine one_ (i := 1) (N := some 30) #[true, true, true, false, false, false, false, false, false, false] rfl rfl (one_of HT_.out (by kernel_rfl)) (by decide) (fun K hK => ?_)
     refine goes_ Try.func14 (by kernel_rfl) rfl #[.agg #[.int .i64 a0_0, .int .i64 a0_1, .int .i64 a0_2, .int .i64 a0_3, .int .i64 a0_4, .bool a0_5, .int .i64 a0_6, .int .i64 a0_7, .int .i64 a0_8, .int .i64 a0_9, .bool a0_10, .string a0_11, .int .i64 a0_12]] (by rfl) rfl rfl args_ ?_
     with_reducible refine (laws_toHand.calls a0_0 a0_1 a0_2 a0_3 a0_4 a0_5 a0_6 a0_7 a0_8 a0_9 a0_10 a0_11 a0_12 t375 t376 t377 t378 t379 t380 t381 t382 t383 t384 t385 t386 t387 _ A22.out).mono ?_
     rintro e w39 ⟨rfl, hb⟩
     refine ⟨_, rfl, ?_⟩
     have n0_ := Aside0.mk (lb_ BK343 hb)
     have n1_ := Aside0.mk (lb_ BK344 hb)
     have n2_ := Aside0.mk (below_step (bb2_ HB GE343 GE344) hb)
     clear BK343
     clear BK344
     clear HB
     have BK343 := n0_
     have BK344 := n1_
     have HB := n2_
     clear n0_ n1_ n2_
     (try clear hb)
     (try clear hb2)
     (try clear hk)
     (try clear hi)
     refine hK.out _ _ ⟨(blk_cell BK343.out 0).trans rfl, (blk_cell BK343.out 1).trans rfl, (blk_cell BK343.out 2).trans rfl, (blk_cell BK343.out 3).trans rfl, (blk_cell BK343.out 4).trans rfl, (blk_cell BK343.out 5).trans rfl, (blk_cell BK343.out 6).trans rfl, (blk_cell BK343.out 7).trans rfl, (blk_cell BK343.out 8).trans rfl, (blk_cell BK343.out 9).trans rfl, (blk_cell BK343.out 10).trans rfl, (blk_cell BK343.out 11).trans rfl, (blk_cell BK343.out 12).trans rfl, (blk_cell BK344.out 0).trans rfl, (blk_cell BK344.out 1).trans rfl, (blk_cell BK344.out 2).trans rfl, (blk_cell BK344.out 3).trans rfl, (blk_cell BK344.out 4).trans rfl, (blk_cell BK344.out 5).trans rfl, (blk_cell BK344.out 6).trans rfl, (blk_cell BK344.out 7).trans rfl, (blk_cell BK344.out 8).trans rfl, (blk_cell BK344.out 9).trans rfl, (blk_cell BK344.out 10).trans rfl, (blk_cell BK344.out 11).trans rfl, (blk_cell BK344.out 12).trans rfl⟩ (fun hHeld => ?_)
     clear hK K
     refine norm_ (a' := ?_) ?_ ?_
     rotate_left
     ·show Act.put _ (some 30) _ = _
      simp only [Act.put, sA_, sB_, sC_, i64_w, i32_w]
      rfl
     refine one_ (i := 3) (N := some 32) #[true, true, true, true, false, false, false, false, false, false] rfl rfl (one_of HT_.out (by kernel_rfl)) (by decide) (fun K hK => ?_)
     refine goes_ Try.func14 (by kernel_rfl) rfl #[.agg #[.int .i64 a1_0, .int .i64 a1_1, .int .i64 a1_2, .int .i64 a1_3, .int .i64 a1_4, .bool a1_5, .int .i64 a1_6, .int .i64 a1_7, .int .i64 a1_8, .int .i64 a1_9, .bool a1_10, .string a1_11, .int .i64 a1_12]] (by rfl) rfl rfl args_ ?_
     with_reducible refine (laws_toHand.calls a1_0 a1_1 a1_2 a1_3 a1_4 a1_5 a1_6 a1_7 a1_8 a1_9 a1_10 a1_11 a1_12 t388 t389 t390 t391 t392 t393 t394 t395 t396 t397 t398 t399 t400 _ A23.out).mono ?_
     rintro e w40 ⟨rfl, hb⟩
     refine ⟨_, rfl, ?_⟩
     have n0_ := Aside0.mk (lb_ BK343 hb)
     have n1_ := Aside0.mk (lb_ BK344 hb)
     have n2_ := Aside0.mk (below_step (bb2_ HB GE343 GE344) hb)
     clear BK343
     clear BK344
     clear HB
     have BK343 := n0_
     have BK344 := n1_
     have HB := n2_
     clear n0_ n1_ n2_
     (try clear hb)
     (try clear hb2)
     (try clear hk)
     (try clear hi)
     refine hK.out _ _ ⟨(blk_cell BK343.out 0).trans rfl, (blk_cell BK343.out 1).trans rfl, (blk_cell BK343.out 2).trans rfl, (blk_cell BK343.out 3).trans rfl, (blk_cell BK343.out 4).trans rfl, (blk_cell BK343.out 5).trans rfl, (blk_cell BK343.out 6).trans rfl, (blk_cell BK343.out 7).trans rfl, (blk_cell BK343.out 8).trans rfl, (blk_cell BK343.out 9).trans rfl, (blk_cell BK343.out 10).trans rfl, (blk_cell BK343.out 11).trans rfl, (blk_cell BK343.out 12).trans rfl, (blk_cell BK344.out 0).trans rfl, (blk_cell BK344.out 1).trans rfl, (blk_cell BK344.out 2).trans rfl, (blk_cell BK344.out 3).trans rfl, (blk_cell BK344.out 4).trans rfl, (blk_cell BK344.out 5).trans rfl, (blk_cell BK344.out 6).trans rfl, (blk_cell BK344.out 7).trans rfl, (blk_cell BK344.out 8).trans rfl, (blk_cell BK344.out 9).trans rfl, (blk_cell BK344.out 10).trans rfl, (blk_cell BK344.out 11).trans rfl, (blk_cell BK344.out 12).trans rfl⟩ (fun hHeld => ?_)
     clear hK K
     refine norm_ (a' := ?_) ?_ ?_
     rotate_left
     ·show Act.put _ (some 32) _ = _
      simp only [Act.put, sA_, sB_, sC_, i64_w, i32_w]
      rfl
     refine one_ (i := 4) (N := some 33) #[true, true, true, true, true, false, false, false, false, false] rfl rfl (one_of HT_.out (by kernel_rfl)) (by decide) (fun K hK => ?_)
     refine goes_ Try.func15 (by kernel_rfl) rfl #[.agg #[.int .i64 t375, .int .i64 t376, .int .i64 t377, .int .i64 t378, .int .i64 t379, .bool t380, .int .i64 t381, .int .i64 t382, .int .i64 t383, .int .i64 t384, .bool t385, .string t386, .int .i64 t387], .agg #[.int .i64 t388, .int .i64 t389, .int .i64 t390, .int .i64 t391, .int .i64 t392, .bool t393, .int .i64 t394, .int .i64 t395, .int .i64 t396, .int .i64 t397, .bool t398, .string t399, .int .i64 t400]] (by rfl) rfl rfl args_ ?_
     with_reducible refine (impl_HandDistance.calls k t375 t376 t377 t378 t379 t380 t381 t382 t383 t384 t385 t386 t387 t388 t389 t390 t391 t392 t393 t394 t395 t396 t397 t398 t399 t400 t401 t402 _ A24.out).mono ?_
     rintro e w41 ⟨rfl, hb⟩
     refine ⟨_, rfl, ?_⟩
     have n0_ := Aside0.mk (lb_ BK343 hb)
     have n1_ := Aside0.mk (lb_ BK344 hb)
     have n2_ := Aside0.mk (below_step (bb2_ HB GE343 GE344) hb)
     clear BK343
     clear BK344
     clear HB
     have BK343 := n0_
     have BK344 := n1_
     have HB := n2_
     clear n0_ n1_ n2_
     (try clear hb)
     (try clear hb2)
     (try clear hk)
     (try clear hi)
     refine hK.out _ _ ⟨(blk_cell BK343.out 0).trans rfl, (blk_cell BK343.out 1).trans rfl, (blk_cell BK343.out 2).trans rfl, (blk_cell BK343.out 3).trans rfl, (blk_cell BK343.out 4).trans rfl, (blk_cell BK343.out 5).trans rfl, (blk_cell BK343.out 6).trans rfl, (blk_cell BK343.out 7).trans rfl, (blk_cell BK343.out 8).trans rfl, (blk_cell BK343.out 9).trans rfl, (blk_cell BK343.out 10).trans rfl, (blk_cell BK343.out 11).trans rfl, (blk_cell BK343.out 12).trans rfl, (blk_cell BK344.out 0).trans rfl, (blk_cell BK344.out 1).trans rfl, (blk_cell BK344.out 2).trans rfl, (blk_cell BK344.out 3).trans rfl, (blk_cell BK344.out 4).trans rfl, (blk_cell BK344.out 5).trans rfl, (blk_cell BK344.out 6).trans rfl, (blk_cell BK344.out 7).trans rfl, (blk_cell BK344.out 8).trans rfl, (blk_cell BK344.out 9).trans rfl, (blk_cell BK344.out 10).trans rfl, (blk_cell BK344.out 11).trans rfl, (blk_cell BK344.out 12).trans rfl⟩ (fun hHeld => ?_)
     clear hK K
     refine norm_ (a' := ?_) ?_ ?_
     rotate_left
     ·show Act.put _ (some 33) _ = _
      simp only [Act.put, sA_, sB_, sC_, i64_w, i32_w]
      rfl
     refine pu_ (i := 5) (N := some 28) (v := ?_) (a' := ?_) #[true, true, true, true, true, true, false, false, false, false] rfl rfl (Or.inl ⟨by rfl, ?_⟩) ?_ ?_
     rotate_left
     ·intro w'
      go_simp
      with_reducible rfl
     rotate_left
     ·simp only [Act.put, sA_, sB_, sC_, i64_w, i32_w]
      rfl
     refine pu_ (i := 6) (N := some 34) (v := ?_) (a' := ?_) #[true, true, true, true, true, true, true, false, false, false] rfl rfl (Or.inl ⟨by rfl, ?_⟩) ?_ ?_
     rotate_left
     ·intro w'
      go_simp
      with_reducible rfl
     rotate_left
     ·simp only [Act.put, sA_, sB_, sC_, i64_w, i32_w]
      rfl
     refine pu_ (i := 7) (N := some 35) (v := ?_) (a' := ?_) #[true, true, true, true, true, true, true, true, false, false] rfl rfl (Or.inl ⟨by rfl, ?_⟩) ?_ ?_
     rotate_left
     ·intro w'
      go_simp
      with_reducible rfl
     rotate_left
     ·simp only [Act.put, sA_, sB_, sC_, i64_w, i32_w]
      rfl
     refine pu_ (i := 8) (N := some 8) (v := ?_) (a' := ?_) #[true, true, true, true, true, true, true, true, true, false] rfl rfl (Or.inl ⟨by rfl, ?_⟩) ?_ ?_
     rotate_left
     ·intro w'
      go_simp
      with_reducible rfl
     rotate_left
     ·simp only [Act.put, sA_, sB_, sC_, i64_w, i32_w]
      rfl
     refine pu_ (i := 9) (N := some 9) (v := ?_) (a' := ?_) #[true, true, true, true, true, true, true, true, true, true] rfl rfl (Or.inl ⟨by rfl, ?_⟩) ?_ ?_
     rotate_left
     ·intro w'
      go_simp
      with_reducible rfl
     rotate_left
     ·simp only [Act.put, sA_, sB_, sC_, i64_w, i32_w]
      rfl
     refine done_ (done_of HT_.out (by kernel_rfl)) ?_
     try go_wp2
     go_ret
     exact ⟨by first | rfl | (simp [errW_none, errW_some] <;> rfl) | (simp [*, errW_none, errW_some] <;> rfl), bb2_ HB GE343 GE344⟩
   ·rw [if_neg c25] at H
    exact absurd H (by simp)

end Go.Proofs.Ytadddkdfbmbagaa.PA
