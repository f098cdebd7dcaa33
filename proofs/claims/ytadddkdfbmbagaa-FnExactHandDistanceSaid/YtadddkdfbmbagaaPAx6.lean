-- Written by a program of this session (wip/tools/myprint.py). Not trusted: Lean checks it.
import Derived.Test.YtadddkdfbmbagaaPAx0
import Derived.Test.YtadddkdfbmbagaaPAx1
import Derived.Test.YtadddkdfbmbagaaPAx2
import Derived.Test.YtadddkdfbmbagaaPAx5
namespace Go.Proofs.Ytadddkdfbmbagaa.PA
open Go.RowKit Go.Proofs.YtadddkdfbmbagaaW.PrintWords Go.Proofs.YtadddkdfbmbagaaW.PrintLast Go.Proofs.YtadddkdfbmbagaaW.PrintMore
attribute [local go_sem] max2_int min2_int max_two min_two max_three min_three max_four min_four   -- for this text's walks alone
set_option linter.unusedVariables false
set_option linter.unusedSimpArgs false

/-! ### spec_feHand: function 23 -/
def spec_feHand.f (k : Nat) (a0_0 : Int) (a0_1 : Int) (a0_2 : Int) (a0_3 : Int) (a0_4 : Int) (a0_5 : Bool) (a0_6 : Int) (a0_7 : Int) (a0_8 : Int) (a0_9 : Int) (a0_10 : Bool) (a0_11 : ByteArray) (a0_12 : Int) (a1_0 : Int) (a1_1 : Int) (a1_2 : Int) (a1_3 : Int) (a1_4 : Int) (a1_5 : Bool) (a1_6 : Int) (a1_7 : Int) (a1_8 : Int) (a1_9 : Int) (a1_10 : Bool) (a1_11 : ByteArray) (a1_12 : Int) : Option (Int) := (spec_shFar.f k a0_0 a0_1 a0_2 a0_3 a0_4 a0_5 a1_0 a1_1 a1_2 a1_3 a1_4 a1_5).bind fun t252 => ((spec_plFar.f a0_8 a0_9 a0_10 a1_8 a1_9 a1_10).bind fun t253 => ((spec_mvAll.f k a0_11 a0_12).bind fun t254 => ((spec_mvAll.f k a1_11 a1_12).bind fun t255 => ((spec_feSteps.f k t254 t255).bind fun t256 => (if a0_6 = a1_6 then (if a0_7 = a1_7 then (some (wrap64 ((wrap64 (t252 + t253)) + t256))) else (some (wrap64 ((wrap64 ((wrap64 (t252 + t253)) + t256)) + 1)))) else (if a0_7 = a1_7 then (some (wrap64 ((wrap64 ((wrap64 (t252 + t253)) + t256)) + 1))) else (some (wrap64 ((wrap64 ((wrap64 ((wrap64 (t252 + t253)) + t256)) + 1)) + 1)))))))))
theorem spec_feHand.mono : ∀ a0 a1 a2 a3 a4 a5 a6 a7 a8 a9 a10 a11 a12 a13 a14 a15 a16 a17 a18 a19 a20 a21 a22 a23 a24 a25 k, LeO (spec_feHand.f k a0 a1 a2 a3 a4 a5 a6 a7 a8 a9 a10 a11 a12 a13 a14 a15 a16 a17 a18 a19 a20 a21 a22 a23 a24 a25) (spec_feHand.f (k + 1) a0 a1 a2 a3 a4 a5 a6 a7 a8 a9 a10 a11 a12 a13 a14 a15 a16 a17 a18 a19 a20 a21 a22 a23 a24 a25) := by
 intro a0 a1 a2 a3 a4 a5 a6 a7 a8 a9 a10 a11 a12 a13 a14 a15 a16 a17 a18 a19 a20 a21 a22 a23 a24 a25 k
 unfold spec_feHand.f
 repeat' first
   | (with_reducible exact spec_feSteps.mono _ _ _)
   | (with_reducible exact spec_mvAll.mono _ _ _)
   | (with_reducible exact spec_shFar.mono _ _ _ _ _ _ _ _ _ _ _ _ _)
   | (with_reducible exact LeO.refl _)
   | (with_reducible exact LeO.none _)
   | (with_reducible refine LeO.ite ?_ ?_)
   | (with_reducible refine LeO.bind ?_ (fun _ => ?_))
   | exact LeO.none _
   | refine LeO.ite ?_ ?_
   | refine LeO.bind ?_ (fun _ => ?_)
def spec_feHand.T1 : Bool × List (List Nat × List Nat) := (true, [([], []), ([0], [0]), ([], []), ([2], [2]), ([1, 3], [1, 3]), ([], []), ([5], [5]), ([], []), ([7], [7]), ([6, 8, 4], [6, 8]), ([4, 9], [4, 9]), ([], []), ([11], [11]), ([12, 9], [12]), ([], []), ([14], [14]), ([15, 13], [15]), ([13, 16, 16], [13, 16]), ([10, 17], [10, 17]), ([18, 17, 0, 1, 2, 3, 4, 5, 6, 7, 8, 9, 10, 11, 12, 13, 14, 15, 16, 17, 18], [18])])
def spec_feHand.B1 : List Nat := [0, 1, 0, 4, 15, 0, 32, 0, 128, 511, 1023, 0, 2048, 7167, 0, 16384, 64511, 130047, 262143, 524287]
theorem spec_feHand.tab1 : rtab .any (opsOf Try.f23 1) = spec_feHand.T1 := by kernel_rfl
theorem spec_feHand.bits1 : waitsOk spec_feHand.T1.2 spec_feHand.B1 = true := by kernel_rfl
set_option maxHeartbeats 8000000 in
set_option maxRecDepth 100000 in
theorem spec_feHand.calls (k : Nat) (a0_0 : Int) (a0_1 : Int) (a0_2 : Int) (a0_3 : Int) (a0_4 : Int) (a0_5 : Bool) (a0_6 : Int) (a0_7 : Int) (a0_8 : Int) (a0_9 : Int) (a0_10 : Bool) (a0_11 : ByteArray) (a0_12 : Int) (a1_0 : Int) (a1_1 : Int) (a1_2 : Int) (a1_3 : Int) (a1_4 : Int) (a1_5 : Bool) (a1_6 : Int) (a1_7 : Int) (a1_8 : Int) (a1_9 : Int) (a1_10 : Bool) (a1_11 : ByteArray) (a1_12 : Int) (r : Int) (w : World) (h : spec_feHand.f k a0_0 a0_1 a0_2 a0_3 a0_4 a0_5 a0_6 a0_7 a0_8 a0_9 a0_10 a0_11 a0_12 a1_0 a1_1 a1_2 a1_3 a1_4 a1_5 a1_6 a1_7 a1_8 a1_9 a1_10 a1_11 a1_12 = some r) :
  Calls Try.prog 23 #[.agg #[.int .i64 a0_0, .int .i64 a0_1, .int .i64 a0_2, .int .i64 a0_3, .int .i64 a0_4, .bool a0_5, .int .i64 a0_6, .int .i64 a0_7, .int .i64 a0_8, .int .i64 a0_9, .bool a0_10, .string a0_11, .int .i64 a0_12], .agg #[.int .i64 a1_0, .int .i64 a1_1, .int .i64 a1_2, .int .i64 a1_3, .int .i64 a1_4, .bool a1_5, .int .i64 a1_6, .int .i64 a1_7, .int .i64 a1_8, .int .i64 a1_9, .bool a1_10, .string a1_11, .int .i64 a1_12]] w fun e w' => e = .returned (.int .i64 r) ∧ Below w.heap.size w w' := by
 have hu47 := Try.underlying47
 have hu43 := Try.underlying43
 have hu45 := Try.underlying45
 have hu27 := Try.underlying27
 have HB := Aside0.mk (Below.refl w.heap.size w)
 have H : ((spec_shFar.f k a0_0 a0_1 a0_2 a0_3 a0_4 a0_5 a1_0 a1_1 a1_2 a1_3 a1_4 a1_5).bind fun t252 => ((spec_plFar.f a0_8 a0_9 a0_10 a1_8 a1_9 a1_10).bind fun t253 => ((spec_mvAll.f k a0_11 a0_12).bind fun t254 => ((spec_mvAll.f k a1_11 a1_12).bind fun t255 => ((spec_feSteps.f k t254 t255).bind fun t256 => (if a0_6 = a1_6 then (if a0_7 = a1_7 then (some (wrap64 ((wrap64 (t252 + t253)) + t256))) else (some (wrap64 ((wrap64 ((wrap64 (t252 + t253)) + t256)) + 1)))) else (if a0_7 = a1_7 then (some (wrap64 ((wrap64 ((wrap64 (t252 + t253)) + t256)) + 1))) else (some (wrap64 ((wrap64 ((wrap64 ((wrap64 (t252 + t253)) + t256)) + 1)) + 1)))))))))) = some r := h
 clear h
 replace H := Option.bind_eq_some_iff.mp H
 obtain ⟨t252, A30, H⟩ := H
 try dsimp only at H
 have A3 := Aside0.mk A30
 clear A30
 replace H := Option.bind_eq_some_iff.mp H
 obtain ⟨t253, A40, H⟩ := H
 try dsimp only at H
 have A4 := Aside0.mk A40
 clear A40
 replace H := Option.bind_eq_some_iff.mp H
 obtain ⟨t254, A50, H⟩ := H
 try dsimp only at H
 have A5 := Aside0.mk A50
 clear A50
 replace H := Option.bind_eq_some_iff.mp H
 obtain ⟨t255, A60, H⟩ := H
 try dsimp only at H
 have A6 := Aside0.mk A60
 clear A60
 replace H := Option.bind_eq_some_iff.mp H
 obtain ⟨t256, A70, H⟩ := H
 try dsimp only at H
 have A7 := Aside0.mk A70
 clear A70
 by_cases c8 : a0_6 = a1_6
 ·rw [if_pos c8] at H
  have c8b0 : (a0_6 == a1_6) = true := beq_iff_eq.mpr c8
  have c8b1 : (a0_6 != a1_6) = false := bne_eq_false_iff_eq.mpr c8
  clear c8
  by_cases c9 : a0_7 = a1_7
  ·rw [if_pos c9] at H
   have c9b0 : (a0_7 == a1_7) = true := beq_iff_eq.mpr c9
   have c9b1 : (a0_7 != a1_7) = false := bne_eq_false_iff_eq.mpr c9
   clear c9
   obtain rfl := Option.some.inj H
   go_enter Try.func23, Try.ntmps23
   try go_wp2_with (first | ((with_reducible refine gate_dst (N := 2) rfl ?_); refine box_event ?hg (N := 2) ?hd (cs := #[.int .i64 a0_0, .int .i64 a0_1, .int .i64 a0_2, .int .i64 a0_3, .int .i64 a0_4, .bool a0_5, .int .i64 a0_6, .int .i64 a0_7, .int .i64 a0_8, .int .i64 a0_9, .bool a0_10, .string a0_11, .int .i64 a0_12]) (t := 47) ?hr ?_; (case hd => rfl); (case hg => rfl); (case hr => first | (go_simp; done) | (go_simp; rfl)); intro gb250 hg w10 hbox hb; have n0_ := Aside0.mk (bt_ HB hb); have n1_ := Aside0.mk (hbox); have n2_ := gz_ hg HB; have n3_ := gz_ hg HB; clear HB; have HB := n0_; have BK250 := n1_; have GW250 := n2_; have GE250 := n3_; clear n0_ n1_ n2_ n3_; clear hb hbox hg) | ((with_reducible refine gate_dst (N := 3) rfl ?_); refine box_event ?hg (N := 3) ?hd (cs := #[.int .i64 a1_0, .int .i64 a1_1, .int .i64 a1_2, .int .i64 a1_3, .int .i64 a1_4, .bool a1_5, .int .i64 a1_6, .int .i64 a1_7, .int .i64 a1_8, .int .i64 a1_9, .bool a1_10, .string a1_11, .int .i64 a1_12]) (t := 47) ?hr ?_; (case hd => rfl); (case hg => rfl); (case hr => first | (go_simp; done) | (go_simp; rfl)); intro gb251 hg w11 hbox hb; have n0_ := Aside0.mk (lb_ BK250 hb); have n1_ := Aside0.mk (below_step (bb1_ HB GE250) hb); have n2_ := Aside0.mk (hbox); have n3_ := gy_ hg (bb1_ HB GE250); have n4_ := gy_ hg (bb1_ HB GE250); have n5_ := nl_ hg BK250; have n6_ := ng_ hg BK250; clear BK250; clear HB; have BK250 := n0_; have HB := n1_; have BK251 := n2_; have GW251 := n3_; have GE251 := n4_; have NB250_251 := n5_; have NB251_250 := n6_; clear n0_ n1_ n2_ n3_ n4_ n5_ n6_; clear hb hbox hg))
   have n0_ := Aside0.mk (blk_drew BK250.out)
   have n1_ := Aside0.mk (blk_drew BK251.out)
   have n2_ := Aside0.mk (below_drew1 HB.out)
   clear BK250
   clear BK251
   clear HB
   have BK250 := n0_
   have BK251 := n1_
   have HB := n2_
   clear n0_ n1_ n2_
   refine start_ (n := 20) (S := fun w' => w'.cell? ⟨gb250, 0, none⟩ = some (.int .i64 a0_0) ∧ w'.cell? ⟨gb250, 1, none⟩ = some (.int .i64 a0_1) ∧ w'.cell? ⟨gb250, 2, none⟩ = some (.int .i64 a0_2) ∧ w'.cell? ⟨gb250, 3, none⟩ = some (.int .i64 a0_3) ∧ w'.cell? ⟨gb250, 4, none⟩ = some (.int .i64 a0_4) ∧ w'.cell? ⟨gb250, 5, none⟩ = some (.bool a0_5) ∧ w'.cell? ⟨gb250, 6, none⟩ = some (.int .i64 a0_6) ∧ w'.cell? ⟨gb250, 7, none⟩ = some (.int .i64 a0_7) ∧ w'.cell? ⟨gb250, 8, none⟩ = some (.int .i64 a0_8) ∧ w'.cell? ⟨gb250, 9, none⟩ = some (.int .i64 a0_9) ∧ w'.cell? ⟨gb250, 10, none⟩ = some (.bool a0_10) ∧ w'.cell? ⟨gb250, 11, none⟩ = some (.string a0_11) ∧ w'.cell? ⟨gb250, 12, none⟩ = some (.int .i64 a0_12) ∧ w'.cell? ⟨gb251, 0, none⟩ = some (.int .i64 a1_0) ∧ w'.cell? ⟨gb251, 1, none⟩ = some (.int .i64 a1_1) ∧ w'.cell? ⟨gb251, 2, none⟩ = some (.int .i64 a1_2) ∧ w'.cell? ⟨gb251, 3, none⟩ = some (.int .i64 a1_3) ∧ w'.cell? ⟨gb251, 4, none⟩ = some (.int .i64 a1_4) ∧ w'.cell? ⟨gb251, 5, none⟩ = some (.bool a1_5) ∧ w'.cell? ⟨gb251, 6, none⟩ = some (.int .i64 a1_6) ∧ w'.cell? ⟨gb251, 7, none⟩ = some (.int .i64 a1_7) ∧ w'.cell? ⟨gb251, 8, none⟩ = some (.int .i64 a1_8) ∧ w'.cell? ⟨gb251, 9, none⟩ = some (.int .i64 a1_9) ∧ w'.cell? ⟨gb251, 10, none⟩ = some (.bool a1_10) ∧ w'.cell? ⟨gb251, 11, none⟩ = some (.string a1_11) ∧ w'.cell? ⟨gb251, 12, none⟩ = some (.int .i64 a1_12)) (ds := []) #[false, false, false, false, false, false, false, false, false, false, false, false, false, false, false, false, false, false, false, false] (by kernel_rfl) rfl rfl ⟨(blk_cell BK250.out 0).trans rfl, (blk_cell BK250.out 1).trans rfl, (blk_cell BK250.out 2).trans rfl, (blk_cell BK250.out 3).trans rfl, (blk_cell BK250.out 4).trans rfl, (blk_cell BK250.out 5).trans rfl, (blk_cell BK250.out 6).trans rfl, (blk_cell BK250.out 7).trans rfl, (blk_cell BK250.out 8).trans rfl, (blk_cell BK250.out 9).trans rfl, (blk_cell BK250.out 10).trans rfl, (blk_cell BK250.out 11).trans rfl, (blk_cell BK250.out 12).trans rfl, (blk_cell BK251.out 0).trans rfl, (blk_cell BK251.out 1).trans rfl, (blk_cell BK251.out 2).trans rfl, (blk_cell BK251.out 3).trans rfl, (blk_cell BK251.out 4).trans rfl, (blk_cell BK251.out 5).trans rfl, (blk_cell BK251.out 6).trans rfl, (blk_cell BK251.out 7).trans rfl, (blk_cell BK251.out 8).trans rfl, (blk_cell BK251.out 9).trans rfl, (blk_cell BK251.out 10).trans rfl, (blk_cell BK251.out 11).trans rfl, (blk_cell BK251.out 12).trans rfl⟩ (fun hHeld => ?_); refine with_tabW spec_feHand.tab1 spec_feHand.bits1 (fun HT_ HW_ => ?_)
   generalize w11.drew = w12 at BK250 BK251 HB hHeld ⊢
   refine pu_ (i := 0) (N := some 6) (v := ?_) (a' := ?_) #[true, false, false, false, false, false, false, false, false, false, false, false, false, false, false, false, false, false, false, false] rfl rfl (Or.inl ⟨by rfl, ?_⟩) ?_ ?_
   rotate_left
   ·intro w'
    go_simp
    with_reducible rfl
   rotate_left
   ·simp only [Act.put, sA_, sB_, sC_, i64_w, i32_w]
    rfl
   refine pu_ (i := 2) (N := some 8) (v := ?_) (a' := ?_) #[true, false, true, false, false, false, false, false, false, false, false, false, false, false, false, false, false, false, false, false] rfl rfl (Or.inl ⟨by rfl, ?_⟩) ?_ ?_
   rotate_left
   ·intro w'
    go_simp
    with_reducible rfl
   rotate_left
   ·simp only [Act.put, sA_, sB_, sC_, i64_w, i32_w]
    rfl
   refine pu_ (i := 5) (N := some 11) (v := ?_) (a' := ?_) #[true, false, true, false, false, true, false, false, false, false, false, false, false, false, false, false, false, false, false, false] rfl rfl (Or.inl ⟨by rfl, ?_⟩) ?_ ?_
   rotate_left
   ·intro w'
    go_simp
    with_reducible rfl
   rotate_left
   ·simp only [Act.put, sA_, sB_, sC_, i64_w, i32_w]
    rfl
   refine pu_ (i := 7) (N := some 13) (v := ?_) (a' := ?_) #[true, false, true, false, false, true, false, true, false, false, false, false, false, false, false, false, false, false, false, false] rfl rfl (Or.inl ⟨by rfl, ?_⟩) ?_ ?_
   rotate_left
   ·intro w'
    go_simp
    with_reducible rfl
   rotate_left
   ·simp only [Act.put, sA_, sB_, sC_, i64_w, i32_w]
    rfl
   refine pu_ (i := 11) (N := some 17) (v := ?_) (a' := ?_) #[true, false, true, false, false, true, false, true, false, false, false, true, false, false, false, false, false, false, false, false] rfl rfl (Or.inl ⟨by rfl, ?_⟩) ?_ ?_
   rotate_left
   ·intro w'
    go_simp
    with_reducible rfl
   rotate_left
   ·simp only [Act.put, sA_, sB_, sC_, i64_w, i32_w]
    rfl
   refine pu_ (i := 14) (N := some 20) (v := ?_) (a' := ?_) #[true, false, true, false, false, true, false, true, false, false, false, true, false, false, true, false, false, false, false, false] rfl rfl (Or.inl ⟨by rfl, ?_⟩) ?_ ?_
   rotate_left
   ·intro w'
    go_simp
    with_reducible rfl
   rotate_left
   ·simp only [Act.put, sA_, sB_, sC_, i64_w, i32_w]
    rfl
   refine take_ (i := 1) (N := some 7) (v := ?_) (a' := ?_) #[true, true, true, false, false, true, false, true, false, false, false, true, false, false, true, false, false, false, false, false] rfl rfl (take_ofW HT_.out HW_.out (by kernel_rfl)) (fun _ _ _ h => h) (Or.inl ⟨by rfl, ?_⟩) hHeld ?_ ?_
   rotate_left
   ·rintro w' ⟨s0, s1, s2, s3, s4, s5, s6, s7, s8, s9, s10, s11, s12, s13, s14, s15, s16, s17, s18, s19, s20, s21, s22, s23, s24, s25⟩
    go_simp
    with_reducible rfl
   rotate_left
   ·simp only [Act.put, sA_, sB_, sC_, i64_w, i32_w]
    rfl
   refine take_ (i := 3) (N := some 9) (v := ?_) (a' := ?_) #[true, true, true, true, false, true, false, true, false, false, false, true, false, false, true, false, false, false, false, false] rfl rfl (take_ofW HT_.out HW_.out (by kernel_rfl)) (fun _ _ _ h => h) (Or.inl ⟨by rfl, ?_⟩) hHeld ?_ ?_
   rotate_left
   ·rintro w' ⟨s0, s1, s2, s3, s4, s5, s6, s7, s8, s9, s10, s11, s12, s13, s14, s15, s16, s17, s18, s19, s20, s21, s22, s23, s24, s25⟩
    go_simp
    with_reducible rfl
   rotate_left
   ·simp only [Act.put, sA_, sB_, sC_, i64_w, i32_w]
    rfl
   refine take_ (i := 6) (N := some 12) (v := ?_) (a' := ?_) #[true, true, true, true, false, true, true, true, false, false, false, true, false, false, true, false, false, false, false, false] rfl rfl (take_ofW HT_.out HW_.out (by kernel_rfl)) (fun _ _ _ h => h) (Or.inl ⟨by rfl, ?_⟩) hHeld ?_ ?_
   rotate_left
   ·rintro w' ⟨s0, s1, s2, s3, s4, s5, s6, s7, s8, s9, s10, s11, s12, s13, s14, s15, s16, s17, s18, s19, s20, s21, s22, s23, s24, s25⟩
    go_simp
    with_reducible rfl
   rotate_left
   ·simp only [Act.put, sA_, sB_, sC_, i64_w, i32_w]
    rfl
   refine take_ (i := 8) (N := some 14) (v := ?_) (a' := ?_) #[true, true, true, true, false, true, true, true, true, false, false, true, false, false, true, false, false, false, false, false] rfl rfl (take_ofW HT_.out HW_.out (by kernel_rfl)) (fun _ _ _ h => h) (Or.inl ⟨by rfl, ?_⟩) hHeld ?_ ?_
   rotate_left
   ·rintro w' ⟨s0, s1, s2, s3, s4, s5, s6, s7, s8, s9, s10, s11, s12, s13, s14, s15, s16, s17, s18, s19, s20, s21, s22, s23, s24, s25⟩
    go_simp
    with_reducible rfl
   rotate_left
   ·simp only [Act.put, sA_, sB_, sC_, i64_w, i32_w]
    rfl
   refine take_ (i := 12) (N := some 18) (v := ?_) (a' := ?_) #[true, true, true, true, false, true, true, true, true, false, false, true, true, false, true, false, false, false, false, false] rfl rfl (take_ofW HT_.out HW_.out (by kernel_rfl)) (fun _ _ _ h => h) (Or.inl ⟨by rfl, ?_⟩) hHeld ?_ ?_
   rotate_left
   ·rintro w' ⟨s0, s1, s2, s3, s4, s5, s6, s7, s8, s9, s10, s11, s12, s13, s14, s15, s16, s17, s18, s19, s20, s21, s22, s23, s24, s25⟩
    go_simp
    with_reducible rfl
   rotate_left
   ·simp only [Act.put, sA_, sB_, sC_, i64_w, i32_w]
    rfl
   refine take_ (i := 15) (N := some 21) (v := ?_) (a' := ?_) #[true, true, true, true, false, true, true, true, true, false, false, true, true, false, true, true, false, false, false, false] rfl rfl (take_ofW HT_.out HW_.out (by kernel_rfl)) (fun _ _ _ h => h) (Or.inl ⟨by rfl, ?_⟩) hHeld ?_ ?_
   rotate_left
   ·rintro w' ⟨s0, s1, s2, s3, s4, s5, s6, s7, s8, s9, s10, s11, s12, s13, s14, s15, s16, s17, s18, s19, s20, s21, s22, s23, s24, s25⟩
    go_simp
    with_reducible rfl
   rotate_left
   ·simp only [Act.put, sA_, sB_, sC_, i64_w, i32_w]
    rfl
   refine one_ (i := 4) (N := some 10) #[true, true, true, true, true, true, true, true, true, false, false, true, true, false, true, true, false, false, false, false] rfl rfl (one_of HT_.out (by kernel_rfl)) (by decide) (fun K hK => ?_)
   refine goes_ Try.func39 (by kernel_rfl) rfl #[.agg #[.int .i64 a0_0, .int .i64 a0_1, .int .i64 a0_2, .int .i64 a0_3, .int .i64 a0_4, .bool a0_5], .agg #[.int .i64 a1_0, .int .i64 a1_1, .int .i64 a1_2, .int .i64 a1_3, .int .i64 a1_4, .bool a1_5]] (by rfl) rfl rfl args_ ?_
   with_reducible refine (spec_shFar.calls k a0_0 a0_1 a0_2 a0_3 a0_4 a0_5 a1_0 a1_1 a1_2 a1_3 a1_4 a1_5 t252 _ A3.out).mono ?_
   rintro e w13 ⟨rfl, hb⟩
   refine ⟨_, rfl, ?_⟩
   have n0_ := Aside0.mk (lb_ BK250 hb)
   have n1_ := Aside0.mk (lb_ BK251 hb)
   have n2_ := Aside0.mk (below_step (bb2_ HB GE250 GE251) hb)
   clear BK250
   clear BK251
   clear HB
   have BK250 := n0_
   have BK251 := n1_
   have HB := n2_
   clear n0_ n1_ n2_
   (try clear hb)
   (try clear hb2)
   (try clear hk)
   (try clear hi)
   refine hK.out _ _ ⟨(blk_cell BK250.out 0).trans rfl, (blk_cell BK250.out 1).trans rfl, (blk_cell BK250.out 2).trans rfl, (blk_cell BK250.out 3).trans rfl, (blk_cell BK250.out 4).trans rfl, (blk_cell BK250.out 5).trans rfl, (blk_cell BK250.out 6).trans rfl, (blk_cell BK250.out 7).trans rfl, (blk_cell BK250.out 8).trans rfl, (blk_cell BK250.out 9).trans rfl, (blk_cell BK250.out 10).trans rfl, (blk_cell BK250.out 11).trans rfl, (blk_cell BK250.out 12).trans rfl, (blk_cell BK251.out 0).trans rfl, (blk_cell BK251.out 1).trans rfl, (blk_cell BK251.out 2).trans rfl, (blk_cell BK251.out 3).trans rfl, (blk_cell BK251.out 4).trans rfl, (blk_cell BK251.out 5).trans rfl, (blk_cell BK251.out 6).trans rfl, (blk_cell BK251.out 7).trans rfl, (blk_cell BK251.out 8).trans rfl, (blk_cell BK251.out 9).trans rfl, (blk_cell BK251.out 10).trans rfl, (blk_cell BK251.out 11).trans rfl, (blk_cell BK251.out 12).trans rfl⟩ (fun hHeld => ?_)
   clear hK K
   refine norm_ (a' := ?_) ?_ ?_
   rotate_left
   ·show Act.put _ (some 10) _ = _
    simp only [Act.put, sA_, sB_, sC_, i64_w, i32_w]
    rfl
   refine one_ (i := 9) (N := some 15) #[true, true, true, true, true, true, true, true, true, true, false, true, true, false, true, true, false, false, false, false] rfl rfl (one_of HT_.out (by kernel_rfl)) (by decide) (fun K hK => ?_)
   refine goes_ Try.func40 (by kernel_rfl) rfl #[.agg #[.int .i64 a0_8, .int .i64 a0_9, .bool a0_10], .agg #[.int .i64 a1_8, .int .i64 a1_9, .bool a1_10]] (by rfl) rfl rfl args_ ?_
   with_reducible refine (spec_plFar.calls a0_8 a0_9 a0_10 a1_8 a1_9 a1_10 t253 _ A4.out).mono ?_
   rintro e w14 ⟨rfl, hb⟩
   refine ⟨_, rfl, ?_⟩
   have n0_ := Aside0.mk (lb_ BK250 hb)
   have n1_ := Aside0.mk (lb_ BK251 hb)
   have n2_ := Aside0.mk (below_step (bb2_ HB GE250 GE251) hb)
   clear BK250
   clear BK251
   clear HB
   have BK250 := n0_
   have BK251 := n1_
   have HB := n2_
   clear n0_ n1_ n2_
   (try clear hb)
   (try clear hb2)
   (try clear hk)
   (try clear hi)
   refine hK.out _ _ ⟨(blk_cell BK250.out 0).trans rfl, (blk_cell BK250.out 1).trans rfl, (blk_cell BK250.out 2).trans rfl, (blk_cell BK250.out 3).trans rfl, (blk_cell BK250.out 4).trans rfl, (blk_cell BK250.out 5).trans rfl, (blk_cell BK250.out 6).trans rfl, (blk_cell BK250.out 7).trans rfl, (blk_cell BK250.out 8).trans rfl, (blk_cell BK250.out 9).trans rfl, (blk_cell BK250.out 10).trans rfl, (blk_cell BK250.out 11).trans rfl, (blk_cell BK250.out 12).trans rfl, (blk_cell BK251.out 0).trans rfl, (blk_cell BK251.out 1).trans rfl, (blk_cell BK251.out 2).trans rfl, (blk_cell BK251.out 3).trans rfl, (blk_cell BK251.out 4).trans rfl, (blk_cell BK251.out 5).trans rfl, (blk_cell BK251.out 6).trans rfl, (blk_cell BK251.out 7).trans rfl, (blk_cell BK251.out 8).trans rfl, (blk_cell BK251.out 9).trans rfl, (blk_cell BK251.out 10).trans rfl, (blk_cell BK251.out 11).trans rfl, (blk_cell BK251.out 12).trans rfl⟩ (fun hHeld => ?_)
   clear hK K
   refine norm_ (a' := ?_) ?_ ?_
   rotate_left
   ·show Act.put _ (some 15) _ = _
    simp only [Act.put, sA_, sB_, sC_, i64_w, i32_w]
    rfl
   refine pu_ (i := 10) (N := some 16) (v := ?_) (a' := ?_) #[true, true, true, true, true, true, true, true, true, true, true, true, true, false, true, true, false, false, false, false] rfl rfl (Or.inl ⟨by rfl, ?_⟩) ?_ ?_
   rotate_left
   ·intro w'
    go_simp
    with_reducible rfl
   rotate_left
   ·simp only [Act.put, sA_, sB_, sC_, i64_w, i32_w]
    rfl
   refine one_ (i := 13) (N := some 19) #[true, true, true, true, true, true, true, true, true, true, true, true, true, true, true, true, false, false, false, false] rfl rfl (one_of HT_.out (by kernel_rfl)) (by decide) (fun K hK => ?_)
   refine goes_ Try.func17 (by kernel_rfl) rfl #[.agg #[.string a0_11, .int .i64 a0_12]] (by rfl) rfl rfl args_ ?_
   with_reducible refine (spec_mvAll.calls k a0_11 a0_12 t254 _ A5.out).mono ?_
   rintro e w15 ⟨rfl, hb⟩
   refine ⟨_, rfl, ?_⟩
   have n0_ := Aside0.mk (lb_ BK250 hb)
   have n1_ := Aside0.mk (lb_ BK251 hb)
   have n2_ := Aside0.mk (below_step (bb2_ HB GE250 GE251) hb)
   clear BK250
   clear BK251
   clear HB
   have BK250 := n0_
   have BK251 := n1_
   have HB := n2_
   clear n0_ n1_ n2_
   (try clear hb)
   (try clear hb2)
   (try clear hk)
   (try clear hi)
   refine hK.out _ _ ⟨(blk_cell BK250.out 0).trans rfl, (blk_cell BK250.out 1).trans rfl, (blk_cell BK250.out 2).trans rfl, (blk_cell BK250.out 3).trans rfl, (blk_cell BK250.out 4).trans rfl, (blk_cell BK250.out 5).trans rfl, (blk_cell BK250.out 6).trans rfl, (blk_cell BK250.out 7).trans rfl, (blk_cell BK250.out 8).trans rfl, (blk_cell BK250.out 9).trans rfl, (blk_cell BK250.out 10).trans rfl, (blk_cell BK250.out 11).trans rfl, (blk_cell BK250.out 12).trans rfl, (blk_cell BK251.out 0).trans rfl, (blk_cell BK251.out 1).trans rfl, (blk_cell BK251.out 2).trans rfl, (blk_cell BK251.out 3).trans rfl, (blk_cell BK251.out 4).trans rfl, (blk_cell BK251.out 5).trans rfl, (blk_cell BK251.out 6).trans rfl, (blk_cell BK251.out 7).trans rfl, (blk_cell BK251.out 8).trans rfl, (blk_cell BK251.out 9).trans rfl, (blk_cell BK251.out 10).trans rfl, (blk_cell BK251.out 11).trans rfl, (blk_cell BK251.out 12).trans rfl⟩ (fun hHeld => ?_)
   clear hK K
   refine norm_ (a' := ?_) ?_ ?_
   rotate_left
   ·show Act.put _ (some 19) _ = _
    simp only [Act.put, sA_, sB_, sC_, i64_w, i32_w]
    rfl
   refine one_ (i := 16) (N := some 22) #[true, true, true, true, true, true, true, true, true, true, true, true, true, true, true, true, true, false, false, false] rfl rfl (one_of HT_.out (by kernel_rfl)) (by decide) (fun K hK => ?_)
   refine goes_ Try.func17 (by kernel_rfl) rfl #[.agg #[.string a1_11, .int .i64 a1_12]] (by rfl) rfl rfl args_ ?_
   with_reducible refine (spec_mvAll.calls k a1_11 a1_12 t255 _ A6.out).mono ?_
   rintro e w16 ⟨rfl, hb⟩
   refine ⟨_, rfl, ?_⟩
   have n0_ := Aside0.mk (lb_ BK250 hb)
   have n1_ := Aside0.mk (lb_ BK251 hb)
   have n2_ := Aside0.mk (below_step (bb2_ HB GE250 GE251) hb)
   clear BK250
   clear BK251
   clear HB
   have BK250 := n0_
   have BK251 := n1_
   have HB := n2_
   clear n0_ n1_ n2_
   (try clear hb)
   (try clear hb2)
   (try clear hk)
   (try clear hi)
   refine hK.out _ _ ⟨(blk_cell BK250.out 0).trans rfl, (blk_cell BK250.out 1).trans rfl, (blk_cell BK250.out 2).trans rfl, (blk_cell BK250.out 3).trans rfl, (blk_cell BK250.out 4).trans rfl, (blk_cell BK250.out 5).trans rfl, (blk_cell BK250.out 6).trans rfl, (blk_cell BK250.out 7).trans rfl, (blk_cell BK250.out 8).trans rfl, (blk_cell BK250.out 9).trans rfl, (blk_cell BK250.out 10).trans rfl, (blk_cell BK250.out 11).trans rfl, (blk_cell BK250.out 12).trans rfl, (blk_cell BK251.out 0).trans rfl, (blk_cell BK251.out 1).trans rfl, (blk_cell BK251.out 2).trans rfl, (blk_cell BK251.out 3).trans rfl, (blk_cell BK251.out 4).trans rfl, (blk_cell BK251.out 5).trans rfl, (blk_cell BK251.out 6).trans rfl, (blk_cell BK251.out 7).trans rfl, (blk_cell BK251.out 8).trans rfl, (blk_cell BK251.out 9).trans rfl, (blk_cell BK251.out 10).trans rfl, (blk_cell BK251.out 11).trans rfl, (blk_cell BK251.out 12).trans rfl⟩ (fun hHeld => ?_)
   clear hK K
   refine norm_ (a' := ?_) ?_ ?_
   rotate_left
   ·show Act.put _ (some 22) _ = _
    simp only [Act.put, sA_, sB_, sC_, i64_w, i32_w]
    rfl
   refine one_ (i := 17) (N := some 23) #[true, true, true, true, true, true, true, true, true, true, true, true, true, true, true, true, true, true, false, false] rfl rfl (one_of HT_.out (by kernel_rfl)) (by decide) (fun K hK => ?_)
   refine goes_ Try.func20 (by kernel_rfl) rfl #[.string t254, .string t255] (by rfl) rfl rfl args_ ?_
   with_reducible refine (spec_feSteps.calls k t254 t255 t256 _ A7.out).mono ?_
   rintro e w17 ⟨rfl, hb⟩
   refine ⟨_, rfl, ?_⟩
   have n0_ := Aside0.mk (lb_ BK250 hb)
   have n1_ := Aside0.mk (lb_ BK251 hb)
   have n2_ := Aside0.mk (below_step (bb2_ HB GE250 GE251) hb)
   clear BK250
   clear BK251
   clear HB
   have BK250 := n0_
   have BK251 := n1_
   have HB := n2_
   clear n0_ n1_ n2_
   (try clear hb)
   (try clear hb2)
   (try clear hk)
   (try clear hi)
   refine hK.out _ _ ⟨(blk_cell BK250.out 0).trans rfl, (blk_cell BK250.out 1).trans rfl, (blk_cell BK250.out 2).trans rfl, (blk_cell BK250.out 3).trans rfl, (blk_cell BK250.out 4).trans rfl, (blk_cell BK250.out 5).trans rfl, (blk_cell BK250.out 6).trans rfl, (blk_cell BK250.out 7).trans rfl, (blk_cell BK250.out 8).trans rfl, (blk_cell BK250.out 9).trans rfl, (blk_cell BK250.out 10).trans rfl, (blk_cell BK250.out 11).trans rfl, (blk_cell BK250.out 12).trans rfl, (blk_cell BK251.out 0).trans rfl, (blk_cell BK251.out 1).trans rfl, (blk_cell BK251.out 2).trans rfl, (blk_cell BK251.out 3).trans rfl, (blk_cell BK251.out 4).trans rfl, (blk_cell BK251.out 5).trans rfl, (blk_cell BK251.out 6).trans rfl, (blk_cell BK251.out 7).trans rfl, (blk_cell BK251.out 8).trans rfl, (blk_cell BK251.out 9).trans rfl, (blk_cell BK251.out 10).trans rfl, (blk_cell BK251.out 11).trans rfl, (blk_cell BK251.out 12).trans rfl⟩ (fun hHeld => ?_)
   clear hK K
   refine norm_ (a' := ?_) ?_ ?_
   rotate_left
   ·show Act.put _ (some 23) _ = _
    simp only [Act.put, sA_, sB_, sC_, i64_w, i32_w]
    rfl
   refine pu_ (i := 18) (N := some 24) (v := ?_) (a' := ?_) #[true, true, true, true, true, true, true, true, true, true, true, true, true, true, true, true, true, true, true, false] rfl rfl (Or.inl ⟨by rfl, ?_⟩) ?_ ?_
   rotate_left
   ·intro w'
    go_simp
    with_reducible rfl
   rotate_left
   ·simp only [Act.put, sA_, sB_, sC_, i64_w, i32_w]
    rfl
   refine pu_ (i := 19) (N := some 5) (v := ?_) (a' := ?_) #[true, true, true, true, true, true, true, true, true, true, true, true, true, true, true, true, true, true, true, true] rfl rfl (Or.inl ⟨by rfl, ?_⟩) ?_ ?_
   rotate_left
   ·intro w'
    go_simp
    with_reducible rfl
   rotate_left
   ·simp only [Act.put, sA_, sB_, sC_, i64_w, i32_w]
    rfl
   refine done_ (done_of HT_.out (by kernel_rfl)) ?_
   have hnb18 := NB250_251.out
   have hnc18 := NB251_250.out
   have hcz19_0 := cz0_ BK250
   have hcz19_1 := cz1_ BK250
   have hcz19_2 := cz2_ BK250
   have hcz19_3 := cz3_ BK250
   have hcz19_4 : w17.cell? ⟨gb250, 4, none⟩ = some (.int .i64 a0_4) := (blk_cell BK250.out 4).trans rfl
   have hcz19_5 : w17.cell? ⟨gb250, 5, none⟩ = some (.bool a0_5) := (blk_cell BK250.out 5).trans rfl
   have hcz19_6 : w17.cell? ⟨gb250, 6, none⟩ = some (.int .i64 a0_6) := (blk_cell BK250.out 6).trans rfl
   have hcz19_7 : w17.cell? ⟨gb250, 7, none⟩ = some (.int .i64 a0_7) := (blk_cell BK250.out 7).trans rfl
   have hcz19_8 : w17.cell? ⟨gb250, 8, none⟩ = some (.int .i64 a0_8) := (blk_cell BK250.out 8).trans rfl
   have hcz19_9 : w17.cell? ⟨gb250, 9, none⟩ = some (.int .i64 a0_9) := (blk_cell BK250.out 9).trans rfl
   have hcz19_10 : w17.cell? ⟨gb250, 10, none⟩ = some (.bool a0_10) := (blk_cell BK250.out 10).trans rfl
   have hcz19_11 : w17.cell? ⟨gb250, 11, none⟩ = some (.string a0_11) := (blk_cell BK250.out 11).trans rfl
   have hcz19_12 : w17.cell? ⟨gb250, 12, none⟩ = some (.int .i64 a0_12) := (blk_cell BK250.out 12).trans rfl
   have hfz19_0 := fz_ BK250 0
   have hfz19_1 := fz_ BK250 1
   have hfz19_2 := fz_ BK250 2
   have hfz19_3 := fz_ BK250 3
   have hfz19_4 := fz_ BK250 4
   have hfz19_5 := fz_ BK250 5
   have hfz19_6 := fz_ BK250 6
   have hfz19_7 := fz_ BK250 7
   have hfz19_8 := fz_ BK250 8
   have hfz19_9 := fz_ BK250 9
   have hfz19_10 := fz_ BK250 10
   have hfz19_11 := fz_ BK250 11
   have hfz19_12 := fz_ BK250 12
   have hcz20_0 := cz0_ BK251
   have hcz20_1 := cz1_ BK251
   have hcz20_2 := cz2_ BK251
   have hcz20_3 := cz3_ BK251
   have hcz20_4 : w17.cell? ⟨gb251, 4, none⟩ = some (.int .i64 a1_4) := (blk_cell BK251.out 4).trans rfl
   have hcz20_5 : w17.cell? ⟨gb251, 5, none⟩ = some (.bool a1_5) := (blk_cell BK251.out 5).trans rfl
   have hcz20_6 : w17.cell? ⟨gb251, 6, none⟩ = some (.int .i64 a1_6) := (blk_cell BK251.out 6).trans rfl
   have hcz20_7 : w17.cell? ⟨gb251, 7, none⟩ = some (.int .i64 a1_7) := (blk_cell BK251.out 7).trans rfl
   have hcz20_8 : w17.cell? ⟨gb251, 8, none⟩ = some (.int .i64 a1_8) := (blk_cell BK251.out 8).trans rfl
   have hcz20_9 : w17.cell? ⟨gb251, 9, none⟩ = some (.int .i64 a1_9) := (blk_cell BK251.out 9).trans rfl
   have hcz20_10 : w17.cell? ⟨gb251, 10, none⟩ = some (.bool a1_10) := (blk_cell BK251.out 10).trans rfl
   have hcz20_11 : w17.cell? ⟨gb251, 11, none⟩ = some (.string a1_11) := (blk_cell BK251.out 11).trans rfl
   have hcz20_12 : w17.cell? ⟨gb251, 12, none⟩ = some (.int .i64 a1_12) := (blk_cell BK251.out 12).trans rfl
   have hfz20_0 := fz_ BK251 0
   have hfz20_1 := fz_ BK251 1
   have hfz20_2 := fz_ BK251 2
   have hfz20_3 := fz_ BK251 3
   have hfz20_4 := fz_ BK251 4
   have hfz20_5 := fz_ BK251 5
   have hfz20_6 := fz_ BK251 6
   have hfz20_7 := fz_ BK251 7
   have hfz20_8 := fz_ BK251 8
   have hfz20_9 := fz_ BK251 9
   have hfz20_10 := fz_ BK251 10
   have hfz20_11 := fz_ BK251 11
   have hfz20_12 := fz_ BK251 12
   try go_wp2
   go_ret
   exact ⟨by first | rfl | (simp [errW_none, errW_some] <;> rfl) | (simp [*, errW_none, errW_some] <;> rfl), bb2_ HB GE250 GE251⟩
  ·rw [if_neg c9] at H
   have c9b0 : (a0_7 == a1_7) = false := beq_eq_false_iff_ne.mpr c9
   have c9b1 : (a0_7 != a1_7) = true := bne_iff_ne.mpr c9
   obtain rfl := Option.some.inj H
   go_enter Try.func23, Try.ntmps23
   try go_wp2_with (first | ((with_reducible refine gate_dst (N := 2) rfl ?_); refine box_event ?hg (N := 2) ?hd (cs := #[.int .i64 a0_0, .int .i64 a0_1, .int .i64 a0_2, .int .i64 a0_3, .int .i64 a0_4, .bool a0_5, .int .i64 a0_6, .int .i64 a0_7, .int .i64 a0_8, .int .i64 a0_9, .bool a0_10, .string a0_11, .int .i64 a0_12]) (t := 47) ?hr ?_; (case hd => rfl); (case hg => rfl); (case hr => first | (go_simp; done) | (go_simp; rfl)); intro gb250 hg w21 hbox hb; have n0_ := Aside0.mk (bt_ HB hb); have n1_ := Aside0.mk (hbox); have n2_ := gz_ hg HB; have n3_ := gz_ hg HB; clear HB; have HB := n0_; have BK250 := n1_; have GW250 := n2_; have GE250 := n3_; clear n0_ n1_ n2_ n3_; clear hb hbox hg) | ((with_reducible refine gate_dst (N := 3) rfl ?_); refine box_event ?hg (N := 3) ?hd (cs := #[.int .i64 a1_0, .int .i64 a1_1, .int .i64 a1_2, .int .i64 a1_3, .int .i64 a1_4, .bool a1_5, .int .i64 a1_6, .int .i64 a1_7, .int .i64 a1_8, .int .i64 a1_9, .bool a1_10, .string a1_11, .int .i64 a1_12]) (t := 47) ?hr ?_; (case hd => rfl); (case hg => rfl); (case hr => first | (go_simp; done) | (go_simp; rfl)); intro gb251 hg w22 hbox hb; have n0_ := Aside0.mk (lb_ BK250 hb); have n1_ := Aside0.mk (below_step (bb1_ HB GE250) hb); have n2_ := Aside0.mk (hbox); have n3_ := gy_ hg (bb1_ HB GE250); have n4_ := gy_ hg (bb1_ HB GE250); have n5_ := nl_ hg BK250; have n6_ := ng_ hg BK250; clear BK250; clear HB; have BK250 := n0_; have HB := n1_; have BK251 := n2_; have GW251 := n3_; have GE251 := n4_; have NB250_251 := n5_; have NB251_250 := n6_; clear n0_ n1_ n2_ n3_ n4_ n5_ n6_; clear hb hbox hg))
   have n0_ := Aside0.mk (blk_drew BK250.out)
   have n1_ := Aside0.mk (blk_drew BK251.out)
   have n2_ := Aside0.mk (below_drew1 HB.out)
   clear BK250
   clear BK251
   clear HB
   have BK250 := n0_
   have BK251 := n1_
   have HB := n2_
   clear n0_ n1_ n2_
   refine start_ (n := 20) (S := fun w' => w'.cell? ⟨gb250, 0, none⟩ = some (.int .i64 a0_0) ∧ w'.cell? ⟨gb250, 1, none⟩ = some (.int .i64 a0_1) ∧ w'.cell? ⟨gb250, 2, none⟩ = some (.int .i64 a0_2) ∧ w'.cell? ⟨gb250, 3, none⟩ = some (.int .i64 a0_3) ∧ w'.cell? ⟨gb250, 4, none⟩ = some (.int .i64 a0_4) ∧ w'.cell? ⟨gb250, 5, none⟩ = some (.bool a0_5) ∧ w'.cell? ⟨gb250, 6, none⟩ = some (.int .i64 a0_6) ∧ w'.cell? ⟨gb250, 7, none⟩ = some (.int .i64 a0_7) ∧ w'.cell? ⟨gb250, 8, none⟩ = some (.int .i64 a0_8) ∧ w'.cell? ⟨gb250, 9, none⟩ = some (.int .i64 a0_9) ∧ w'.cell? ⟨gb250, 10, none⟩ = some (.bool a0_10) ∧ w'.cell? ⟨gb250, 11, none⟩ = some (.string a0_11) ∧ w'.cell? ⟨gb250, 12, none⟩ = some (.int .i64 a0_12) ∧ w'.cell? ⟨gb251, 0, none⟩ = some (.int .i64 a1_0) ∧ w'.cell? ⟨gb251, 1, none⟩ = some (.int .i64 a1_1) ∧ w'.cell? ⟨gb251, 2, none⟩ = some (.int .i64 a1_2) ∧ w'.cell? ⟨gb251, 3, none⟩ = some (.int .i64 a1_3) ∧ w'.cell? ⟨gb251, 4, none⟩ = some (.int .i64 a1_4) ∧ w'.cell? ⟨gb251, 5, none⟩ = some (.bool a1_5) ∧ w'.cell? ⟨gb251, 6, none⟩ = some (.int .i64 a1_6) ∧ w'.cell? ⟨gb251, 7, none⟩ = some (.int .i64 a1_7) ∧ w'.cell? ⟨gb251, 8, none⟩ = some (.int .i64 a1_8) ∧ w'.cell? ⟨gb251, 9, none⟩ = some (.int .i64 a1_9) ∧ w'.cell? ⟨gb251, 10, none⟩ = some (.bool a1_10) ∧ w'.cell? ⟨gb251, 11, none⟩ = some (.string a1_11) ∧ w'.cell? ⟨gb251, 12, none⟩ = some (.int .i64 a1_12)) (ds := []) #[false, false, false, false, false, false, false, false, false, false, false, false, false, false, false, false, false, false, false, false] (by kernel_rfl) rfl rfl ⟨(blk_cell BK250.out 0).trans rfl, (blk_cell BK250.out 1).trans rfl, (blk_cell BK250.out 2).trans rfl, (blk_cell BK250.out 3).trans rfl, (blk_cell BK250.out 4).trans rfl, (blk_cell BK250.out 5).trans rfl, (blk_cell BK250.out 6).trans rfl, (blk_cell BK250.out 7).trans rfl, (blk_cell BK250.out 8).trans rfl, (blk_cell BK250.out 9).trans rfl, (blk_cell BK250.out 10).trans rfl, (blk_cell BK250.out 11).trans rfl, (blk_cell BK250.out 12).trans rfl, (blk_cell BK251.out 0).trans rfl, (blk_cell BK251.out 1).trans rfl, (blk_cell BK251.out 2).trans rfl, (blk_cell BK251.out 3).trans rfl, (blk_cell BK251.out 4).trans rfl, (blk_cell BK251.out 5).trans rfl, (blk_cell BK251.out 6).trans rfl, (blk_cell BK251.out 7).trans rfl, (blk_cell BK251.out 8).trans rfl, (blk_cell BK251.out 9).trans rfl, (blk_cell BK251.out 10).trans rfl, (blk_cell BK251.out 11).trans rfl, (blk_cell BK251.out 12).trans rfl⟩ (fun hHeld => ?_); refine with_tabW spec_feHand.tab1 spec_feHand.bits1 (fun HT_ HW_ => ?_)
   generalize w22.drew = w23 at BK250 BK251 HB hHeld ⊢
   refine pu_ (i := 0) (N := some 6) (v := ?_) (a' := ?_) #[true, false, false, false, false, false, false, false, false, false, false, false, false, false, false, false, false, false, false, false] rfl rfl (Or.inl ⟨by rfl, ?_⟩) ?_ ?_
   rotate_left
   ·intro w'
    go_simp
    with_reducible rfl
   rotate_left
   ·simp only [Act.put, sA_, sB_, sC_, i64_w, i32_w]
    rfl
   refine pu_ (i := 2) (N := some 8) (v := ?_) (a' := ?_) #[true, false, true, false, false, false, false, false, false, false, false, false, false, false, false, false, false, false, false, false] rfl rfl (Or.inl ⟨by rfl, ?_⟩) ?_ ?_
   rotate_left
   ·intro w'
    go_simp
    with_reducible rfl
   rotate_left
   ·simp only [Act.put, sA_, sB_, sC_, i64_w, i32_w]
    rfl
   refine pu_ (i := 5) (N := some 11) (v := ?_) (a' := ?_) #[true, false, true, false, false, true, false, false, false, false, false, false, false, false, false, false, false, false, false, false] rfl rfl (Or.inl ⟨by rfl, ?_⟩) ?_ ?_
   rotate_left
   ·intro w'
    go_simp
    with_reducible rfl
   rotate_left
   ·simp only [Act.put, sA_, sB_, sC_, i64_w, i32_w]
    rfl
   refine pu_ (i := 7) (N := some 13) (v := ?_) (a' := ?_) #[true, false, true, false, false, true, false, true, false, false, false, false, false, false, false, false, false, false, false, false] rfl rfl (Or.inl ⟨by rfl, ?_⟩) ?_ ?_
   rotate_left
   ·intro w'
    go_simp
    with_reducible rfl
   rotate_left
   ·simp only [Act.put, sA_, sB_, sC_, i64_w, i32_w]
    rfl
   refine pu_ (i := 11) (N := some 17) (v := ?_) (a' := ?_) #[true, false, true, false, false, true, false, true, false, false, false, true, false, false, false, false, false, false, false, false] rfl rfl (Or.inl ⟨by rfl, ?_⟩) ?_ ?_
   rotate_left
   ·intro w'
    go_simp
    with_reducible rfl
   rotate_left
   ·simp only [Act.put, sA_, sB_, sC_, i64_w, i32_w]
    rfl
   refine pu_ (i := 14) (N := some 20) (v := ?_) (a' := ?_) #[true, false, true, false, false, true, false, true, false, false, false, true, false, false, true, false, false, false, false, false] rfl rfl (Or.inl ⟨by rfl, ?_⟩) ?_ ?_
   rotate_left
   ·intro w'
    go_simp
    with_reducible rfl
   rotate_left
   ·simp only [Act.put, sA_, sB_, sC_, i64_w, i32_w]
    rfl
   refine take_ (i := 1) (N := some 7) (v := ?_) (a' := ?_) #[true, true, true, false, false, true, false, true, false, false, false, true, false, false, true, false, false, false, false, false] rfl rfl (take_ofW HT_.out HW_.out (by kernel_rfl)) (fun _ _ _ h => h) (Or.inl ⟨by rfl, ?_⟩) hHeld ?_ ?_
   rotate_left
   ·rintro w' ⟨s0, s1, s2, s3, s4, s5, s6, s7, s8, s9, s10, s11, s12, s13, s14, s15, s16, s17, s18, s19, s20, s21, s22, s23, s24, s25⟩
    go_simp
    with_reducible rfl
   rotate_left
   ·simp only [Act.put, sA_, sB_, sC_, i64_w, i32_w]
    rfl
   refine take_ (i := 3) (N := some 9) (v := ?_) (a' := ?_) #[true, true, true, true, false, true, false, true, false, false, false, true, false, false, true, false, false, false, false, false] rfl rfl (take_ofW HT_.out HW_.out (by kernel_rfl)) (fun _ _ _ h => h) (Or.inl ⟨by rfl, ?_⟩) hHeld ?_ ?_
   rotate_left
   ·rintro w' ⟨s0, s1, s2, s3, s4, s5, s6, s7, s8, s9, s10, s11, s12, s13, s14, s15, s16, s17, s18, s19, s20, s21, s22, s23, s24, s25⟩
    go_simp
    with_reducible rfl
   rotate_left
   ·simp only [Act.put, sA_, sB_, sC_, i64_w, i32_w]
    rfl
   refine take_ (i := 6) (N := some 12) (v := ?_) (a' := ?_) #[true, true, true, true, false, true, true, true, false, false, false, true, false, false, true, false, false, false, false, false] rfl rfl (take_ofW HT_.out HW_.out (by kernel_rfl)) (fun _ _ _ h => h) (Or.inl ⟨by rfl, ?_⟩) hHeld ?_ ?_
   rotate_left
   ·rintro w' ⟨s0, s1, s2, s3, s4, s5, s6, s7, s8, s9, s10, s11, s12, s13, s14, s15, s16, s17, s18, s19, s20, s21, s22, s23, s24, s25⟩
    go_simp
    with_reducible rfl
   rotate_left
   ·simp only [Act.put, sA_, sB_, sC_, i64_w, i32_w]
    rfl
   refine take_ (i := 8) (N := some 14) (v := ?_) (a' := ?_) #[true, true, true, true, false, true, true, true, true, false, false, true, false, false, true, false, false, false, false, false] rfl rfl (take_ofW HT_.out HW_.out (by kernel_rfl)) (fun _ _ _ h => h) (Or.inl ⟨by rfl, ?_⟩) hHeld ?_ ?_
   rotate_left
   ·rintro w' ⟨s0, s1, s2, s3, s4, s5, s6, s7, s8, s9, s10, s11, s12, s13, s14, s15, s16, s17, s18, s19, s20, s21, s22, s23, s24, s25⟩
    go_simp
    with_reducible rfl
   rotate_left
   ·simp only [Act.put, sA_, sB_, sC_, i64_w, i32_w]
    rfl
   refine take_ (i := 12) (N := some 18) (v := ?_) (a' := ?_) #[true, true, true, true, false, true, true, true, true, false, false, true, true, false, true, false, false, false, false, false] rfl rfl (take_ofW HT_.out HW_.out (by kernel_rfl)) (fun _ _ _ h => h) (Or.inl ⟨by rfl, ?_⟩) hHeld ?_ ?_
   rotate_left
   ·rintro w' ⟨s0, s1, s2, s3, s4, s5, s6, s7, s8, s9, s10, s11, s12, s13, s14, s15, s16, s17, s18, s19, s20, s21, s22, s23, s24, s25⟩
    go_simp
    with_reducible rfl
   rotate_left
   ·simp only [Act.put, sA_, sB_, sC_, i64_w, i32_w]
    rfl
   refine take_ (i := 15) (N := some 21) (v := ?_) (a' := ?_) #[true, true, true, true, false, true, true, true, true, false, false, true, true, false, true, true, false, false, false, false] rfl rfl (take_ofW HT_.out HW_.out (by kernel_rfl)) (fun _ _ _ h => h) (Or.inl ⟨by rfl, ?_⟩) hHeld ?_ ?_
   rotate_left
   ·rintro w' ⟨s0, s1, s2, s3, s4, s5, s6, s7, s8, s9, s10, s11, s12, s13, s14, s15, s16, s17, s18, s19, s20, s21, s22, s23, s24, s25⟩
    go_simp
    with_reducible rfl
   rotate_left
   ·simp only [Act.put, sA_, sB_, sC_, i64_w, i32_w]
    rfl
   refine one_ (i := 4) (N := some 10) #[true, true, true, true, true, true, true, true, true, false, false, true, true, false, true, true, false, false, false, false] rfl rfl (one_of HT_.out (by kernel_rfl)) (by decide) (fun K hK => ?_)
   refine goes_ Try.func39 (by kernel_rfl) rfl #[.agg #[.int .i64 a0_0, .int .i64 a0_1, .int .i64 a0_2, .int .i64 a0_3, .int .i64 a0_4, .bool a0_5], .agg #[.int .i64 a1_0, .int .i64 a1_1, .int .i64 a1_2, .int .i64 a1_3, .int .i64 a1_4, .bool a1_5]] (by rfl) rfl rfl args_ ?_
   with_reducible refine (spec_shFar.calls k a0_0 a0_1 a0_2 a0_3 a0_4 a0_5 a1_0 a1_1 a1_2 a1_3 a1_4 a1_5 t252 _ A3.out).mono ?_
   rintro e w24 ⟨rfl, hb⟩
   refine ⟨_, rfl, ?_⟩
   have n0_ := Aside0.mk (lb_ BK250 hb)
   have n1_ := Aside0.mk (lb_ BK251 hb)
   have n2_ := Aside0.mk (below_step (bb2_ HB GE250 GE251) hb)
   clear BK250
   clear BK251
   clear HB
   have BK250 := n0_
   have BK251 := n1_
   have HB := n2_
   clear n0_ n1_ n2_
   (try clear hb)
   (try clear hb2)
   (try clear hk)
   (try clear hi)
   refine hK.out _ _ ⟨(blk_cell BK250.out 0).trans rfl, (blk_cell BK250.out 1).trans rfl, (blk_cell BK250.out 2).trans rfl, (blk_cell BK250.out 3).trans rfl, (blk_cell BK250.out 4).trans rfl, (blk_cell BK250.out 5).trans rfl, (blk_cell BK250.out 6).trans rfl, (blk_cell BK250.out 7).trans rfl, (blk_cell BK250.out 8).trans rfl, (blk_cell BK250.out 9).trans rfl, (blk_cell BK250.out 10).trans rfl, (blk_cell BK250.out 11).trans rfl, (blk_cell BK250.out 12).trans rfl, (blk_cell BK251.out 0).trans rfl, (blk_cell BK251.out 1).trans rfl, (blk_cell BK251.out 2).trans rfl, (blk_cell BK251.out 3).trans rfl, (blk_cell BK251.out 4).trans rfl, (blk_cell BK251.out 5).trans rfl, (blk_cell BK251.out 6).trans rfl, (blk_cell BK251.out 7).trans rfl, (blk_cell BK251.out 8).trans rfl, (blk_cell BK251.out 9).trans rfl, (blk_cell BK251.out 10).trans rfl, (blk_cell BK251.out 11).trans rfl, (blk_cell BK251.out 12).trans rfl⟩ (fun hHeld => ?_)
   clear hK K
   refine norm_ (a' := ?_) ?_ ?_
   rotate_left
   ·show Act.put _ (some 10) _ = _
    simp only [Act.put, sA_, sB_, sC_, i64_w, i32_w]
    rfl
   refine one_ (i := 9) (N := some 15) #[true, true, true, true, true, true, true, true, true, true, false, true, true, false, true, true, false, false, false, false] rfl rfl (one_of HT_.out (by kernel_rfl)) (by decide) (fun K hK => ?_)
   refine goes_ Try.func40 (by kernel_rfl) rfl #[.agg #[.int .i64 a0_8, .int .i64 a0_9, .bool a0_10], .agg #[.int .i64 a1_8, .int .i64 a1_9, .bool a1_10]] (by rfl) rfl rfl args_ ?_
   with_reducible refine (spec_plFar.calls a0_8 a0_9 a0_10 a1_8 a1_9 a1_10 t253 _ A4.out).mono ?_
   rintro e w25 ⟨rfl, hb⟩
   refine ⟨_, rfl, ?_⟩
   have n0_ := Aside0.mk (lb_ BK250 hb)
   have n1_ := Aside0.mk (lb_ BK251 hb)
   have n2_ := Aside0.mk (below_step (bb2_ HB GE250 GE251) hb)
   clear BK250
   clear BK251
   clear HB
   have BK250 := n0_
   have BK251 := n1_
   have HB := n2_
   clear n0_ n1_ n2_
   (try clear hb)
   (try clear hb2)
   (try clear hk)
   (try clear hi)
   refine hK.out _ _ ⟨(blk_cell BK250.out 0).trans rfl, (blk_cell BK250.out 1).trans rfl, (blk_cell BK250.out 2).trans rfl, (blk_cell BK250.out 3).trans rfl, (blk_cell BK250.out 4).trans rfl, (blk_cell BK250.out 5).trans rfl, (blk_cell BK250.out 6).trans rfl, (blk_cell BK250.out 7).trans rfl, (blk_cell BK250.out 8).trans rfl, (blk_cell BK250.out 9).trans rfl, (blk_cell BK250.out 10).trans rfl, (blk_cell BK250.out 11).trans rfl, (blk_cell BK250.out 12).trans rfl, (blk_cell BK251.out 0).trans rfl, (blk_cell BK251.out 1).trans rfl, (blk_cell BK251.out 2).trans rfl, (blk_cell BK251.out 3).trans rfl, (blk_cell BK251.out 4).trans rfl, (blk_cell BK251.out 5).trans rfl, (blk_cell BK251.out 6).trans rfl, (blk_cell BK251.out 7).trans rfl, (blk_cell BK251.out 8).trans rfl, (blk_cell BK251.out 9).trans rfl, (blk_cell BK251.out 10).trans rfl, (blk_cell BK251.out 11).trans rfl, (blk_cell BK251.out 12).trans rfl⟩ (fun hHeld => ?_)
   clear hK K
   refine norm_ (a' := ?_) ?_ ?_
   rotate_left
   ·show Act.put _ (some 15) _ = _
    simp only [Act.put, sA_, sB_, sC_, i64_w, i32_w]
    rfl
   refine pu_ (i := 10) (N := some 16) (v := ?_) (a' := ?_) #[true, true, true, true, true, true, true, true, true, true, true, true, true, false, true, true, false, false, false, false] rfl rfl (Or.inl ⟨by rfl, ?_⟩) ?_ ?_
   rotate_left
   ·intro w'
    go_simp
    with_reducible rfl
   rotate_left
   ·simp only [Act.put, sA_, sB_, sC_, i64_w, i32_w]
    rfl
   refine one_ (i := 13) (N := some 19) #[true, true, true, true, true, true, true, true, true, true, true, true, true, true, true, true, false, false, false, false] rfl rfl (one_of HT_.out (by kernel_rfl)) (by decide) (fun K hK => ?_)
   refine goes_ Try.func17 (by kernel_rfl) rfl #[.agg #[.string a0_11, .int .i64 a0_12]] (by rfl) rfl rfl args_ ?_
   with_reducible refine (spec_mvAll.calls k a0_11 a0_12 t254 _ A5.out).mono ?_
   rintro e w26 ⟨rfl, hb⟩
   refine ⟨_, rfl, ?_⟩
   have n0_ := Aside0.mk (lb_ BK250 hb)
   have n1_ := Aside0.mk (lb_ BK251 hb)
   have n2_ := Aside0.mk (below_step (bb2_ HB GE250 GE251) hb)
   clear BK250
   clear BK251
   clear HB
   have BK250 := n0_
   have BK251 := n1_
   have HB := n2_
   clear n0_ n1_ n2_
   (try clear hb)
   (try clear hb2)
   (try clear hk)
   (try clear hi)
   refine hK.out _ _ ⟨(blk_cell BK250.out 0).trans rfl, (blk_cell BK250.out 1).trans rfl, (blk_cell BK250.out 2).trans rfl, (blk_cell BK250.out 3).trans rfl, (blk_cell BK250.out 4).trans rfl, (blk_cell BK250.out 5).trans rfl, (blk_cell BK250.out 6).trans rfl, (blk_cell BK250.out 7).trans rfl, (blk_cell BK250.out 8).trans rfl, (blk_cell BK250.out 9).trans rfl, (blk_cell BK250.out 10).trans rfl, (blk_cell BK250.out 11).trans rfl, (blk_cell BK250.out 12).trans rfl, (blk_cell BK251.out 0).trans rfl, (blk_cell BK251.out 1).trans rfl, (blk_cell BK251.out 2).trans rfl, (blk_cell BK251.out 3).trans rfl, (blk_cell BK251.out 4).trans rfl, (blk_cell BK251.out 5).trans rfl, (blk_cell BK251.out 6).trans rfl, (blk_cell BK251.out 7).trans rfl, (blk_cell BK251.out 8).trans rfl, (blk_cell BK251.out 9).trans rfl, (blk_cell BK251.out 10).trans rfl, (blk_cell BK251.out 11).trans rfl, (blk_cell BK251.out 12).trans rfl⟩ (fun hHeld => ?_)
   clear hK K
   refine norm_ (a' := ?_) ?_ ?_
   rotate_left
   ·show Act.put _ (some 19) _ = _
    simp only [Act.put, sA_, sB_, sC_, i64_w, i32_w]
    rfl
   refine one_ (i := 16) (N := some 22) #[true, true, true, true, true, true, true, true, true, true, true, true, true, true, true, true, true, false, false, false] rfl rfl (one_of HT_.out (by kernel_rfl)) (by decide) (fun K hK => ?_)
   refine goes_ Try.func17 (by kernel_rfl) rfl #[.agg #[.string a1_11, .int .i64 a1_12]] (by rfl) rfl rfl args_ ?_
   with_reducible refine (spec_mvAll.calls k a1_11 a1_12 t255 _ A6.out).mono ?_
   rintro e w27 ⟨rfl, hb⟩
   refine ⟨_, rfl, ?_⟩
   have n0_ := Aside0.mk (lb_ BK250 hb)
   have n1_ := Aside0.mk (lb_ BK251 hb)
   have n2_ := Aside0.mk (below_step (bb2_ HB GE250 GE251) hb)
   clear BK250
   clear BK251
   clear HB
   have BK250 := n0_
   have BK251 := n1_
   have HB := n2_
   clear n0_ n1_ n2_
   (try clear hb)
   (try clear hb2)
   (try clear hk)
   (try clear hi)
   refine hK.out _ _ ⟨(blk_cell BK250.out 0).trans rfl, (blk_cell BK250.out 1).trans rfl, (blk_cell BK250.out 2).trans rfl, (blk_cell BK250.out 3).trans rfl, (blk_cell BK250.out 4).trans rfl, (blk_cell BK250.out 5).trans rfl, (blk_cell BK250.out 6).trans rfl, (blk_cell BK250.out 7).trans rfl, (blk_cell BK250.out 8).trans rfl, (blk_cell BK250.out 9).trans rfl, (blk_cell BK250.out 10).trans rfl, (blk_cell BK250.out 11).trans rfl, (blk_cell BK250.out 12).trans rfl, (blk_cell BK251.out 0).trans rfl, (blk_cell BK251.out 1).trans rfl, (blk_cell BK251.out 2).trans rfl, (blk_cell BK251.out 3).trans rfl, (blk_cell BK251.out 4).trans rfl, (blk_cell BK251.out 5).trans rfl, (blk_cell BK251.out 6).trans rfl, (blk_cell BK251.out 7).trans rfl, (blk_cell BK251.out 8).trans rfl, (blk_cell BK251.out 9).trans rfl, (blk_cell BK251.out 10).trans rfl, (blk_cell BK251.out 11).trans rfl, (blk_cell BK251.out 12).trans rfl⟩ (fun hHeld => ?_)
   clear hK K
   refine norm_ (a' := ?_) ?_ ?_
   rotate_left
   ·show Act.put _ (some 22) _ = _
    simp only [Act.put, sA_, sB_, sC_, i64_w, i32_w]
    rfl
   refine one_ (i := 17) (N := some 23) #[true, true, true, true, true, true, true, true, true, true, true, true, true, true, true, true, true, true, false, false] rfl rfl (one_of HT_.out (by kernel_rfl)) (by decide) (fun K hK => ?_)
   refine goes_ Try.func20 (by kernel_rfl) rfl #[.string t254, .string t255] (by rfl) rfl rfl args_ ?_
   with_reducible refine (spec_feSteps.calls k t254 t255 t256 _ A7.out).mono ?_
   rintro e w28 ⟨rfl, hb⟩
   refine ⟨_, rfl, ?_⟩
   have n0_ := Aside0.mk (lb_ BK250 hb)
   have n1_ := Aside0.mk (lb_ BK251 hb)
   have n2_ := Aside0.mk (below_step (bb2_ HB GE250 GE251) hb)
   clear BK250
   clear BK251
   clear HB
   have BK250 := n0_
   have BK251 := n1_
   have HB := n2_
   clear n0_ n1_ n2_
   (try clear hb)
   (try clear hb2)
   (try clear hk)
   (try clear hi)
   refine hK.out _ _ ⟨(blk_cell BK250.out 0).trans rfl, (blk_cell BK250.out 1).trans rfl, (blk_cell BK250.out 2).trans rfl, (blk_cell BK250.out 3).trans rfl, (blk_cell BK250.out 4).trans rfl, (blk_cell BK250.out 5).trans rfl, (blk_cell BK250.out 6).trans rfl, (blk_cell BK250.out 7).trans rfl, (blk_cell BK250.out 8).trans rfl, (blk_cell BK250.out 9).trans rfl, (blk_cell BK250.out 10).trans rfl, (blk_cell BK250.out 11).trans rfl, (blk_cell BK250.out 12).trans rfl, (blk_cell BK251.out 0).trans rfl, (blk_cell BK251.out 1).trans rfl, (blk_cell BK251.out 2).trans rfl, (blk_cell BK251.out 3).trans rfl, (blk_cell BK251.out 4).trans rfl, (blk_cell BK251.out 5).trans rfl, (blk_cell BK251.out 6).trans rfl, (blk_cell BK251.out 7).trans rfl, (blk_cell BK251.out 8).trans rfl, (blk_cell BK251.out 9).trans rfl, (blk_cell BK251.out 10).trans rfl, (blk_cell BK251.out 11).trans rfl, (blk_cell BK251.out 12).trans rfl⟩ (fun hHeld => ?_)
   clear hK K
   refine norm_ (a' := ?_) ?_ ?_
   rotate_left
   ·show Act.put _ (some 23) _ = _
    simp only [Act.put, sA_, sB_, sC_, i64_w, i32_w]
    rfl
   refine pu_ (i := 18) (N := some 24) (v := ?_) (a' := ?_) #[true, true, true, true, true, true, true, true, true, true, true, true, true, true, true, true, true, true, true, false] rfl rfl (Or.inl ⟨by rfl, ?_⟩) ?_ ?_
   rotate_left
   ·intro w'
    go_simp
    with_reducible rfl
   rotate_left
   ·simp only [Act.put, sA_, sB_, sC_, i64_w, i32_w]
    rfl
   refine pu_ (i := 19) (N := some 5) (v := ?_) (a' := ?_) #[true, true, true, true, true, true, true, true, true, true, true, true, true, true, true, true, true, true, true, true] rfl rfl (Or.inl ⟨by rfl, ?_⟩) ?_ ?_
   rotate_left
   ·intro w'
    go_simp
    with_reducible rfl
   rotate_left
   ·simp only [Act.put, sA_, sB_, sC_, i64_w, i32_w]
    rfl
   refine done_ (done_of HT_.out (by kernel_rfl)) ?_
   have hnb29 := NB250_251.out
   have hnc29 := NB251_250.out
   have hcz30_0 := cz0_ BK250
   have hcz30_1 := cz1_ BK250
   have hcz30_2 := cz2_ BK250
   have hcz30_3 := cz3_ BK250
   have hcz30_4 : w28.cell? ⟨gb250, 4, none⟩ = some (.int .i64 a0_4) := (blk_cell BK250.out 4).trans rfl
   have hcz30_5 : w28.cell? ⟨gb250, 5, none⟩ = some (.bool a0_5) := (blk_cell BK250.out 5).trans rfl
   have hcz30_6 : w28.cell? ⟨gb250, 6, none⟩ = some (.int .i64 a0_6) := (blk_cell BK250.out 6).trans rfl
   have hcz30_7 : w28.cell? ⟨gb250, 7, none⟩ = some (.int .i64 a0_7) := (blk_cell BK250.out 7).trans rfl
   have hcz30_8 : w28.cell? ⟨gb250, 8, none⟩ = some (.int .i64 a0_8) := (blk_cell BK250.out 8).trans rfl
   have hcz30_9 : w28.cell? ⟨gb250, 9, none⟩ = some (.int .i64 a0_9) := (blk_cell BK250.out 9).trans rfl
   have hcz30_10 : w28.cell? ⟨gb250, 10, none⟩ = some (.bool a0_10) := (blk_cell BK250.out 10).trans rfl
   have hcz30_11 : w28.cell? ⟨gb250, 11, none⟩ = some (.string a0_11) := (blk_cell BK250.out 11).trans rfl
   have hcz30_12 : w28.cell? ⟨gb250, 12, none⟩ = some (.int .i64 a0_12) := (blk_cell BK250.out 12).trans rfl
   have hfz30_0 := fz_ BK250 0
   have hfz30_1 := fz_ BK250 1
   have hfz30_2 := fz_ BK250 2
   have hfz30_3 := fz_ BK250 3
   have hfz30_4 := fz_ BK250 4
   have hfz30_5 := fz_ BK250 5
   have hfz30_6 := fz_ BK250 6
   have hfz30_7 := fz_ BK250 7
   have hfz30_8 := fz_ BK250 8
   have hfz30_9 := fz_ BK250 9
   have hfz30_10 := fz_ BK250 10
   have hfz30_11 := fz_ BK250 11
   have hfz30_12 := fz_ BK250 12
   have hcz31_0 := cz0_ BK251
   have hcz31_1 := cz1_ BK251
   have hcz31_2 := cz2_ BK251
   have hcz31_3 := cz3_ BK251
   have hcz31_4 : w28.cell? ⟨gb251, 4, none⟩ = some (.int .i64 a1_4) := (blk_cell BK251.out 4).trans rfl
   have hcz31_5 : w28.cell? ⟨gb251, 5, none⟩ = some (.bool a1_5) := (blk_cell BK251.out 5).trans rfl
   have hcz31_6 : w28.cell? ⟨gb251, 6, none⟩ = some (.int .i64 a1_6) := (blk_cell BK251.out 6).trans rfl
   have hcz31_7 : w28.cell? ⟨gb251, 7, none⟩ = some (.int .i64 a1_7) := (blk_cell BK251.out 7).trans rfl
   have hcz31_8 : w28.cell? ⟨gb251, 8, none⟩ = some (.int .i64 a1_8) := (blk_cell BK251.out 8).trans rfl
   have hcz31_9 : w28.cell? ⟨gb251, 9, none⟩ = some (.int .i64 a1_9) := (blk_cell BK251.out 9).trans rfl
   have hcz31_10 : w28.cell? ⟨gb251, 10, none⟩ = some (.bool a1_10) := (blk_cell BK251.out 10).trans rfl
   have hcz31_11 : w28.cell? ⟨gb251, 11, none⟩ = some (.string a1_11) := (blk_cell BK251.out 11).trans rfl
   have hcz31_12 : w28.cell? ⟨gb251, 12, none⟩ = some (.int .i64 a1_12) := (blk_cell BK251.out 12).trans rfl
   have hfz31_0 := fz_ BK251 0
   have hfz31_1 := fz_ BK251 1
   have hfz31_2 := fz_ BK251 2
   have hfz31_3 := fz_ BK251 3
   have hfz31_4 := fz_ BK251 4
   have hfz31_5 := fz_ BK251 5
   have hfz31_6 := fz_ BK251 6
   have hfz31_7 := fz_ BK251 7
   have hfz31_8 := fz_ BK251 8
   have hfz31_9 := fz_ BK251 9
   have hfz31_10 := fz_ BK251 10
   have hfz31_11 := fz_ BK251 11
   have hfz31_12 := fz_ BK251 12
   try go_wp2
   go_ret
   exact ⟨by first | rfl | (simp [errW_none, errW_some] <;> rfl) | (simp [*, errW_none, errW_some] <;> rfl), bb2_ HB GE250 GE251⟩
 ·rw [if_neg c8] at H
  have c8b0 : (a0_6 == a1_6) = false := beq_eq_false_iff_ne.mpr c8
  have c8b1 : (a0_6 != a1_6) = true := bne_iff_ne.mpr c8
  by_cases c32 : a0_7 = a1_7
  ·rw [if_pos c32] at H
   have c32b0 : (a0_7 == a1_7) = true := beq_iff_eq.mpr c32
   have c32b1 : (a0_7 != a1_7) = false := bne_eq_false_iff_eq.mpr c32
   clear c32
   obtain rfl := Option.some.inj H
   go_enter Try.func23, Try.ntmps23
   try go_wp2_with (first | ((with_reducible refine gate_dst (N := 2) rfl ?_); refine box_event ?hg (N := 2) ?hd (cs := #[.int .i64 a0_0, .int .i64 a0_1, .int .i64 a0_2, .int .i64 a0_3, .int .i64 a0_4, .bool a0_5, .int .i64 a0_6, .int .i64 a0_7, .int .i64 a0_8, .int .i64 a0_9, .bool a0_10, .string a0_11, .int .i64 a0_12]) (t := 47) ?hr ?_; (case hd => rfl); (case hg => rfl); (case hr => first | (go_simp; done) | (go_simp; rfl)); intro gb250 hg w33 hbox hb; have n0_ := Aside0.mk (bt_ HB hb); have n1_ := Aside0.mk (hbox); have n2_ := gz_ hg HB; have n3_ := gz_ hg HB; clear HB; have HB := n0_; have BK250 := n1_; have GW250 := n2_; have GE250 := n3_; clear n0_ n1_ n2_ n3_; clear hb hbox hg) | ((with_reducible refine gate_dst (N := 3) rfl ?_); refine box_event ?hg (N := 3) ?hd (cs := #[.int .i64 a1_0, .int .i64 a1_1, .int .i64 a1_2, .int .i64 a1_3, .int .i64 a1_4, .bool a1_5, .int .i64 a1_6, .int .i64 a1_7, .int .i64 a1_8, .int .i64 a1_9, .bool a1_10, .string a1_11, .int .i64 a1_12]) (t := 47) ?hr ?_; (case hd => rfl); (case hg => rfl); (case hr => first | (go_simp; done) | (go_simp; rfl)); intro gb251 hg w34 hbox hb; have n0_ := Aside0.mk (lb_ BK250 hb); have n1_ := Aside0.mk (below_step (bb1_ HB GE250) hb); have n2_ := Aside0.mk (hbox); have n3_ := gy_ hg (bb1_ HB GE250); have n4_ := gy_ hg (bb1_ HB GE250); have n5_ := nl_ hg BK250; have n6_ := ng_ hg BK250; clear BK250; clear HB; have BK250 := n0_; have HB := n1_; have BK251 := n2_; have GW251 := n3_; have GE251 := n4_; have NB250_251 := n5_; have NB251_250 := n6_; clear n0_ n1_ n2_ n3_ n4_ n5_ n6_; clear hb hbox hg))
   have n0_ := Aside0.mk (blk_drew BK250.out)
   have n1_ := Aside0.mk (blk_drew BK251.out)
   have n2_ := Aside0.mk (below_drew1 HB.out)
   clear BK250
   clear BK251
   clear HB
   have BK250 := n0_
   have BK251 := n1_
   have HB := n2_
   clear n0_ n1_ n2_
   refine start_ (n := 20) (S := fun w' => w'.cell? ⟨gb250, 0, none⟩ = some (.int .i64 a0_0) ∧ w'.cell? ⟨gb250, 1, none⟩ = some (.int .i64 a0_1) ∧ w'.cell? ⟨gb250, 2, none⟩ = some (.int .i64 a0_2) ∧ w'.cell? ⟨gb250, 3, none⟩ = some (.int .i64 a0_3) ∧ w'.cell? ⟨gb250, 4, none⟩ = some (.int .i64 a0_4) ∧ w'.cell? ⟨gb250, 5, none⟩ = some (.bool a0_5) ∧ w'.cell? ⟨gb250, 6, none⟩ = some (.int .i64 a0_6) ∧ w'.cell? ⟨gb250, 7, none⟩ = some (.int .i64 a0_7) ∧ w'.cell? ⟨gb250, 8, none⟩ = some (.int .i64 a0_8) ∧ w'.cell? ⟨gb250, 9, none⟩ = some (.int .i64 a0_9) ∧ w'.cell? ⟨gb250, 10, none⟩ = some (.bool a0_10) ∧ w'.cell? ⟨gb250, 11, none⟩ = some (.string a0_11) ∧ w'.cell? ⟨gb250, 12, none⟩ = some (.int .i64 a0_12) ∧ w'.cell? ⟨gb251, 0, none⟩ = some (.int .i64 a1_0) ∧ w'.cell? ⟨gb251, 1, none⟩ = some (.int .i64 a1_1) ∧ w'.cell? ⟨gb251, 2, none⟩ = some (.int .i64 a1_2) ∧ w'.cell? ⟨gb251, 3, none⟩ = some (.int .i64 a1_3) ∧ w'.cell? ⟨gb251, 4, none⟩ = some (.int .i64 a1_4) ∧ w'.cell? ⟨gb251, 5, none⟩ = some (.bool a1_5) ∧ w'.cell? ⟨gb251, 6, none⟩ = some (.int .i64 a1_6) ∧ w'.cell? ⟨gb251, 7, none⟩ = some (.int .i64 a1_7) ∧ w'.cell? ⟨gb251, 8, none⟩ = some (.int .i64 a1_8) ∧ w'.cell? ⟨gb251, 9, none⟩ = some (.int .i64 a1_9) ∧ w'.cell? ⟨gb251, 10, none⟩ = some (.bool a1_10) ∧ w'.cell? ⟨gb251, 11, none⟩ = some (.string a1_11) ∧ w'.cell? ⟨gb251, 12, none⟩ = some (.int .i64 a1_12)) (ds := []) #[false, false, false, false, false, false, false, false, false, false, false, false, false, false, false, false, false, false, false, false] (by kernel_rfl) rfl rfl ⟨(blk_cell BK250.out 0).trans rfl, (blk_cell BK250.out 1).trans rfl, (blk_cell BK250.out 2).trans rfl, (blk_cell BK250.out 3).trans rfl, (blk_cell BK250.out 4).trans rfl, (blk_cell BK250.out 5).trans rfl, (blk_cell BK250.out 6).trans rfl, (blk_cell BK250.out 7).trans rfl, (blk_cell BK250.out 8).trans rfl, (blk_cell BK250.out 9).trans rfl, (blk_cell BK250.out 10).trans rfl, (blk_cell BK250.out 11).trans rfl, (blk_cell BK250.out 12).trans rfl, (blk_cell BK251.out 0).trans rfl, (blk_cell BK251.out 1).trans rfl, (blk_cell BK251.out 2).trans rfl, (blk_cell BK251.out 3).trans rfl, (blk_cell BK251.out 4).trans rfl, (blk_cell BK251.out 5).trans rfl, (blk_cell BK251.out 6).trans rfl, (blk_cell BK251.out 7).trans rfl, (blk_cell BK251.out 8).trans rfl, (blk_cell BK251.out 9).trans rfl, (blk_cell BK251.out 10).trans rfl, (blk_cell BK251.out 11).trans rfl, (blk_cell BK251.out 12).trans rfl⟩ (fun hHeld => ?_); refine with_tabW spec_feHand.tab1 spec_feHand.bits1 (fun HT_ HW_ => ?_)
   generalize w34.drew = w35 at BK250 BK251 HB hHeld ⊢
   refine pu_ (i := 0) (N := some 6) (v := ?_) (a' := ?_) #[true, false, false, false, false, false, false, false, false, false, false, false, false, false, false, false, false, false, false, false] rfl rfl (Or.inl ⟨by rfl, ?_⟩) ?_ ?_
   rotate_left
   ·intro w'
    go_simp
    with_reducible rfl
   rotate_left
   ·simp only [Act.put, sA_, sB_, sC_, i64_w, i32_w]
    rfl
   refine pu_ (i := 2) (N := some 8) (v := ?_) (a' := ?_) #[true, false, true, false, false, false, false, false, false, false, false, false, false, false, false, false, false, false, false, false] rfl rfl (Or.inl ⟨by rfl, ?_⟩) ?_ ?_
   rotate_left
   ·intro w'
    go_simp
    with_reducible rfl
   rotate_left
   ·simp only [Act.put, sA_, sB_, sC_, i64_w, i32_w]
    rfl
   refine pu_ (i := 5) (N := some 11) (v := ?_) (a' := ?_) #[true, false, true, false, false, true, false, false, false, false, false, false, false, false, false, false, false, false, false, false] rfl rfl (Or.inl ⟨by rfl, ?_⟩) ?_ ?_
   rotate_left
   ·intro w'
    go_simp
    with_reducible rfl
   rotate_left
   ·simp only [Act.put, sA_, sB_, sC_, i64_w, i32_w]
    rfl
   refine pu_ (i := 7) (N := some 13) (v := ?_) (a' := ?_) #[true, false, true, false, false, true, false, true, false, false, false, false, false, false, false, false, false, false, false, false] rfl rfl (Or.inl ⟨by rfl, ?_⟩) ?_ ?_
   rotate_left
   ·intro w'
    go_simp
    with_reducible rfl
   rotate_left
   ·simp only [Act.put, sA_, sB_, sC_, i64_w, i32_w]
    rfl
   refine pu_ (i := 11) (N := some 17) (v := ?_) (a' := ?_) #[true, false, true, false, false, true, false, true, false, false, false, true, false, false, false, false, false, false, false, false] rfl rfl (Or.inl ⟨by rfl, ?_⟩) ?_ ?_
   rotate_left
   ·intro w'
    go_simp
    with_reducible rfl
   rotate_left
   ·simp only [Act.put, sA_, sB_, sC_, i64_w, i32_w]
    rfl
   refine pu_ (i := 14) (N := some 20) (v := ?_) (a' := ?_) #[true, false, true, false, false, true, false, true, false, false, false, true, false, false, true, false, false, false, false, false] rfl rfl (Or.inl ⟨by rfl, ?_⟩) ?_ ?_
   rotate_left
   ·intro w'
    go_simp
    with_reducible rfl
   rotate_left
   ·simp only [Act.put, sA_, sB_, sC_, i64_w, i32_w]
    rfl
   refine take_ (i := 1) (N := some 7) (v := ?_) (a' := ?_) #[true, true, true, false, false, true, false, true, false, false, false, true, false, false, true, false, false, false, false, false] rfl rfl (take_ofW HT_.out HW_.out (by kernel_rfl)) (fun _ _ _ h => h) (Or.inl ⟨by rfl, ?_⟩) hHeld ?_ ?_
   rotate_left
   ·rintro w' ⟨s0, s1, s2, s3, s4, s5, s6, s7, s8, s9, s10, s11, s12, s13, s14, s15, s16, s17, s18, s19, s20, s21, s22, s23, s24, s25⟩
    go_simp
    with_reducible rfl
   rotate_left
   ·simp only [Act.put, sA_, sB_, sC_, i64_w, i32_w]
    rfl
   refine take_ (i := 3) (N := some 9) (v := ?_) (a' := ?_) #[true, true, true, true, false, true, false, true, false, false, false, true, false, false, true, false, false, false, false, false] rfl rfl (take_ofW HT_.out HW_.out (by kernel_rfl)) (fun _ _ _ h => h) (Or.inl ⟨by rfl, ?_⟩) hHeld ?_ ?_
   rotate_left
   ·rintro w' ⟨s0, s1, s2, s3, s4, s5, s6, s7, s8, s9, s10, s11, s12, s13, s14, s15, s16, s17, s18, s19, s20, s21, s22, s23, s24, s25⟩
    go_simp
    with_reducible rfl
   rotate_left
   ·simp only [Act.put, sA_, sB_, sC_, i64_w, i32_w]
    rfl
   refine take_ (i := 6) (N := some 12) (v := ?_) (a' := ?_) #[true, true, true, true, false, true, true, true, false, false, false, true, false, false, true, false, false, false, false, false] rfl rfl (take_ofW HT_.out HW_.out (by kernel_rfl)) (fun _ _ _ h => h) (Or.inl ⟨by rfl, ?_⟩) hHeld ?_ ?_
   rotate_left
   ·rintro w' ⟨s0, s1, s2, s3, s4, s5, s6, s7, s8, s9, s10, s11, s12, s13, s14, s15, s16, s17, s18, s19, s20, s21, s22, s23, s24, s25⟩
    go_simp
    with_reducible rfl
   rotate_left
   ·simp only [Act.put, sA_, sB_, sC_, i64_w, i32_w]
    rfl
   refine take_ (i := 8) (N := some 14) (v := ?_) (a' := ?_) #[true, true, true, true, false, true, true, true, true, false, false, true, false, false, true, false, false, false, false, false] rfl rfl (take_ofW HT_.out HW_.out (by kernel_rfl)) (fun _ _ _ h => h) (Or.inl ⟨by rfl, ?_⟩) hHeld ?_ ?_
   rotate_left
   ·rintro w' ⟨s0, s1, s2, s3, s4, s5, s6, s7, s8, s9, s10, s11, s12, s13, s14, s15, s16, s17, s18, s19, s20, s21, s22, s23, s24, s25⟩
    go_simp
    with_reducible rfl
   rotate_left
   ·simp only [Act.put, sA_, sB_, sC_, i64_w, i32_w]
    rfl
   refine take_ (i := 12) (N := some 18) (v := ?_) (a' := ?_) #[true, true, true, true, false, true, true, true, true, false, false, true, true, false, true, false, false, false, false, false] rfl rfl (take_ofW HT_.out HW_.out (by kernel_rfl)) (fun _ _ _ h => h) (Or.inl ⟨by rfl, ?_⟩) hHeld ?_ ?_
   rotate_left
   ·rintro w' ⟨s0, s1, s2, s3, s4, s5, s6, s7, s8, s9, s10, s11, s12, s13, s14, s15, s16, s17, s18, s19, s20, s21, s22, s23, s24, s25⟩
    go_simp
    with_reducible rfl
   rotate_left
   ·simp only [Act.put, sA_, sB_, sC_, i64_w, i32_w]
    rfl
   refine take_ (i := 15) (N := some 21) (v := ?_) (a' := ?_) #[true, true, true, true, false, true, true, true, true, false, false, true, true, false, true, true, false, false, false, false] rfl rfl (take_ofW HT_.out HW_.out (by kernel_rfl)) (fun _ _ _ h => h) (Or.inl ⟨by rfl, ?_⟩) hHeld ?_ ?_
   rotate_left
   ·rintro w' ⟨s0, s1, s2, s3, s4, s5, s6, s7, s8, s9, s10, s11, s12, s13, s14, s15, s16, s17, s18, s19, s20, s21, s22, s23, s24, s25⟩
    go_simp
    with_reducible rfl
   rotate_left
   ·simp only [Act.put, sA_, sB_, sC_, i64_w, i32_w]
    rfl
   refine one_ (i := 4) (N := some 10) #[true, true, true, true, true, true, true, true, true, false, false, true, true, false, true, true, false, false, false, false] rfl rfl (one_of HT_.out (by kernel_rfl)) (by decide) (fun K hK => ?_)
   refine goes_ Try.func39 (by kernel_rfl) rfl #[.agg #[.int .i64 a0_0, .int .i64 a0_1, .int .i64 a0_2, .int .i64 a0_3, .int .i64 a0_4, .bool a0_5], .agg #[.int .i64 a1_0, .int .i64 a1_1, .int .i64 a1_2, .int .i64 a1_3, .int .i64 a1_4, .bool a1_5]] (by rfl) rfl rfl args_ ?_
   with_reducible refine (spec_shFar.calls k a0_0 a0_1 a0_2 a0_3 a0_4 a0_5 a1_0 a1_1 a1_2 a1_3 a1_4 a1_5 t252 _ A3.out).mono ?_
   rintro e w36 ⟨rfl, hb⟩
   refine ⟨_, rfl, ?_⟩
   have n0_ := Aside0.mk (lb_ BK250 hb)
   have n1_ := Aside0.mk (lb_ BK251 hb)
   have n2_ := Aside0.mk (below_step (bb2_ HB GE250 GE251) hb)
   clear BK250
   clear BK251
   clear HB
   have BK250 := n0_
   have BK251 := n1_
   have HB := n2_
   clear n0_ n1_ n2_
   (try clear hb)
   (try clear hb2)
   (try clear hk)
   (try clear hi)
   refine hK.out _ _ ⟨(blk_cell BK250.out 0).trans rfl, (blk_cell BK250.out 1).trans rfl, (blk_cell BK250.out 2).trans rfl, (blk_cell BK250.out 3).trans rfl, (blk_cell BK250.out 4).trans rfl, (blk_cell BK250.out 5).trans rfl, (blk_cell BK250.out 6).trans rfl, (blk_cell BK250.out 7).trans rfl, (blk_cell BK250.out 8).trans rfl, (blk_cell BK250.out 9).trans rfl, (blk_cell BK250.out 10).trans rfl, (blk_cell BK250.out 11).trans rfl, (blk_cell BK250.out 12).trans rfl, (blk_cell BK251.out 0).trans rfl, (blk_cell BK251.out 1).trans rfl, (blk_cell BK251.out 2).trans rfl, (blk_cell BK251.out 3).trans rfl, (blk_cell BK251.out 4).trans rfl, (blk_cell BK251.out 5).trans rfl, (blk_cell BK251.out 6).trans rfl, (blk_cell BK251.out 7).trans rfl, (blk_cell BK251.out 8).trans rfl, (blk_cell BK251.out 9).trans rfl, (blk_cell BK251.out 10).trans rfl, (blk_cell BK251.out 11).trans rfl, (blk_cell BK251.out 12).trans rfl⟩ (fun hHeld => ?_)
   clear hK K
   refine norm_ (a' := ?_) ?_ ?_
   rotate_left
   ·show Act.put _ (some 10) _ = _
    simp only [Act.put, sA_, sB_, sC_, i64_w, i32_w]
    rfl
   refine one_ (i := 9) (N := some 15) #[true, true, true, true, true, true, true, true, true, true, false, true, true, false, true, true, false, false, false, false] rfl rfl (one_of HT_.out (by kernel_rfl)) (by decide) (fun K hK => ?_)
   refine goes_ Try.func40 (by kernel_rfl) rfl #[.agg #[.int .i64 a0_8, .int .i64 a0_9, .bool a0_10], .agg #[.int .i64 a1_8, .int .i64 a1_9, .bool a1_10]] (by rfl) rfl rfl args_ ?_
   with_reducible refine (spec_plFar.calls a0_8 a0_9 a0_10 a1_8 a1_9 a1_10 t253 _ A4.out).mono ?_
   rintro e w37 ⟨rfl, hb⟩
   refine ⟨_, rfl, ?_⟩
   have n0_ := Aside0.mk (lb_ BK250 hb)
   have n1_ := Aside0.mk (lb_ BK251 hb)
   have n2_ := Aside0.mk (below_step (bb2_ HB GE250 GE251) hb)
   clear BK250
   clear BK251
   clear HB
   have BK250 := n0_
   have BK251 := n1_
   have HB := n2_
   clear n0_ n1_ n2_
   (try clear hb)
   (try clear hb2)
   (try clear hk)
   (try clear hi)
   refine hK.out _ _ ⟨(blk_cell BK250.out 0).trans rfl, (blk_cell BK250.out 1).trans rfl, (blk_cell BK250.out 2).trans rfl, (blk_cell BK250.out 3).trans rfl, (blk_cell BK250.out 4).trans rfl, (blk_cell BK250.out 5).trans rfl, (blk_cell BK250.out 6).trans rfl, (blk_cell BK250.out 7).trans rfl, (blk_cell BK250.out 8).trans rfl, (blk_cell BK250.out 9).trans rfl, (blk_cell BK250.out 10).trans rfl, (blk_cell BK250.out 11).trans rfl, (blk_cell BK250.out 12).trans rfl, (blk_cell BK251.out 0).trans rfl, (blk_cell BK251.out 1).trans rfl, (blk_cell BK251.out 2).trans rfl, (blk_cell BK251.out 3).trans rfl, (blk_cell BK251.out 4).trans rfl, (blk_cell BK251.out 5).trans rfl, (blk_cell BK251.out 6).trans rfl, (blk_cell BK251.out 7).trans rfl, (blk_cell BK251.out 8).trans rfl, (blk_cell BK251.out 9).trans rfl, (blk_cell BK251.out 10).trans rfl, (blk_cell BK251.out 11).trans rfl, (blk_cell BK251.out 12).trans rfl⟩ (fun hHeld => ?_)
   clear hK K
   refine norm_ (a' := ?_) ?_ ?_
   rotate_left
   ·show Act.put _ (some 15) _ = _
    simp only [Act.put, sA_, sB_, sC_, i64_w, i32_w]
    rfl
   refine pu_ (i := 10) (N := some 16) (v := ?_) (a' := ?_) #[true, true, true, true, true, true, true, true, true, true, true, true, true, false, true, true, false, false, false, false] rfl rfl (Or.inl ⟨by rfl, ?_⟩) ?_ ?_
   rotate_left
   ·intro w'
    go_simp
    with_reducible rfl
   rotate_left
   ·simp only [Act.put, sA_, sB_, sC_, i64_w, i32_w]
    rfl
   refine one_ (i := 13) (N := some 19) #[true, true, true, true, true, true, true, true, true, true, true, true, true, true, true, true, false, false, false, false] rfl rfl (one_of HT_.out (by kernel_rfl)) (by decide) (fun K hK => ?_)
   refine goes_ Try.func17 (by kernel_rfl) rfl #[.agg #[.string a0_11, .int .i64 a0_12]] (by rfl) rfl rfl args_ ?_
   with_reducible refine (spec_mvAll.calls k a0_11 a0_12 t254 _ A5.out).mono ?_
   rintro e w38 ⟨rfl, hb⟩
   refine ⟨_, rfl, ?_⟩
   have n0_ := Aside0.mk (lb_ BK250 hb)
   have n1_ := Aside0.mk (lb_ BK251 hb)
   have n2_ := Aside0.mk (below_step (bb2_ HB GE250 GE251) hb)
   clear BK250
   clear BK251
   clear HB
   have BK250 := n0_
   have BK251 := n1_
   have HB := n2_
   clear n0_ n1_ n2_
   (try clear hb)
   (try clear hb2)
   (try clear hk)
   (try clear hi)
   refine hK.out _ _ ⟨(blk_cell BK250.out 0).trans rfl, (blk_cell BK250.out 1).trans rfl, (blk_cell BK250.out 2).trans rfl, (blk_cell BK250.out 3).trans rfl, (blk_cell BK250.out 4).trans rfl, (blk_cell BK250.out 5).trans rfl, (blk_cell BK250.out 6).trans rfl, (blk_cell BK250.out 7).trans rfl, (blk_cell BK250.out 8).trans rfl, (blk_cell BK250.out 9).trans rfl, (blk_cell BK250.out 10).trans rfl, (blk_cell BK250.out 11).trans rfl, (blk_cell BK250.out 12).trans rfl, (blk_cell BK251.out 0).trans rfl, (blk_cell BK251.out 1).trans rfl, (blk_cell BK251.out 2).trans rfl, (blk_cell BK251.out 3).trans rfl, (blk_cell BK251.out 4).trans rfl, (blk_cell BK251.out 5).trans rfl, (blk_cell BK251.out 6).trans rfl, (blk_cell BK251.out 7).trans rfl, (blk_cell BK251.out 8).trans rfl, (blk_cell BK251.out 9).trans rfl, (blk_cell BK251.out 10).trans rfl, (blk_cell BK251.out 11).trans rfl, (blk_cell BK251.out 12).trans rfl⟩ (fun hHeld => ?_)
   clear hK K
   refine norm_ (a' := ?_) ?_ ?_
   rotate_left
   ·show Act.put _ (some 19) _ = _
    simp only [Act.put, sA_, sB_, sC_, i64_w, i32_w]
    rfl
   refine one_ (i := 16) (N := some 22) #[true, true, true, true, true, true, true, true, true, true, true, true, true, true, true, true, true, false, false, false] rfl rfl (one_of HT_.out (by kernel_rfl)) (by decide) (fun K hK => ?_)
   refine goes_ Try.func17 (by kernel_rfl) rfl #[.agg #[.string a1_11, .int .i64 a1_12]] (by rfl) rfl rfl args_ ?_
   with_reducible refine (spec_mvAll.calls k a1_11 a1_12 t255 _ A6.out).mono ?_
   rintro e w39 ⟨rfl, hb⟩
   refine ⟨_, rfl, ?_⟩
   have n0_ := Aside0.mk (lb_ BK250 hb)
   have n1_ := Aside0.mk (lb_ BK251 hb)
   have n2_ := Aside0.mk (below_step (bb2_ HB GE250 GE251) hb)
   clear BK250
   clear BK251
   clear HB
   have BK250 := n0_
   have BK251 := n1_
   have HB := n2_
   clear n0_ n1_ n2_
   (try clear hb)
   (try clear hb2)
   (try clear hk)
   (try clear hi)
   refine hK.out _ _ ⟨(blk_cell BK250.out 0).trans rfl, (blk_cell BK250.out 1).trans rfl, (blk_cell BK250.out 2).trans rfl, (blk_cell BK250.out 3).trans rfl, (blk_cell BK250.out 4).trans rfl, (blk_cell BK250.out 5).trans rfl, (blk_cell BK250.out 6).trans rfl, (blk_cell BK250.out 7).trans rfl, (blk_cell BK250.out 8).trans rfl, (blk_cell BK250.out 9).trans rfl, (blk_cell BK250.out 10).trans rfl, (blk_cell BK250.out 11).trans rfl, (blk_cell BK250.out 12).trans rfl, (blk_cell BK251.out 0).trans rfl, (blk_cell BK251.out 1).trans rfl, (blk_cell BK251.out 2).trans rfl, (blk_cell BK251.out 3).trans rfl, (blk_cell BK251.out 4).trans rfl, (blk_cell BK251.out 5).trans rfl, (blk_cell BK251.out 6).trans rfl, (blk_cell BK251.out 7).trans rfl, (blk_cell BK251.out 8).trans rfl, (blk_cell BK251.out 9).trans rfl, (blk_cell BK251.out 10).trans rfl, (blk_cell BK251.out 11).trans rfl, (blk_cell BK251.out 12).trans rfl⟩ (fun hHeld => ?_)
   clear hK K
   refine norm_ (a' := ?_) ?_ ?_
   rotate_left
   ·show Act.put _ (some 22) _ = _
    simp only [Act.put, sA_, sB_, sC_, i64_w, i32_w]
    rfl
   refine one_ (i := 17) (N := some 23) #[true, true, true, true, true, true, true, true, true, true, true, true, true, true, true, true, true, true, false, false] rfl rfl (one_of HT_.out (by kernel_rfl)) (by decide) (fun K hK => ?_)
   refine goes_ Try.func20 (by kernel_rfl) rfl #[.string t254, .string t255] (by rfl) rfl rfl args_ ?_
   with_reducible refine (spec_feSteps.calls k t254 t255 t256 _ A7.out).mono ?_
   rintro e w40 ⟨rfl, hb⟩
   refine ⟨_, rfl, ?_⟩
   have n0_ := Aside0.mk (lb_ BK250 hb)
   have n1_ := Aside0.mk (lb_ BK251 hb)
   have n2_ := Aside0.mk (below_step (bb2_ HB GE250 GE251) hb)
   clear BK250
   clear BK251
   clear HB
   have BK250 := n0_
   have BK251 := n1_
   have HB := n2_
   clear n0_ n1_ n2_
   (try clear hb)
   (try clear hb2)
   (try clear hk)
   (try clear hi)
   refine hK.out _ _ ⟨(blk_cell BK250.out 0).trans rfl, (blk_cell BK250.out 1).trans rfl, (blk_cell BK250.out 2).trans rfl, (blk_cell BK250.out 3).trans rfl, (blk_cell BK250.out 4).trans rfl, (blk_cell BK250.out 5).trans rfl, (blk_cell BK250.out 6).trans rfl, (blk_cell BK250.out 7).trans rfl, (blk_cell BK250.out 8).trans rfl, (blk_cell BK250.out 9).trans rfl, (blk_cell BK250.out 10).trans rfl, (blk_cell BK250.out 11).trans rfl, (blk_cell BK250.out 12).trans rfl, (blk_cell BK251.out 0).trans rfl, (blk_cell BK251.out 1).trans rfl, (blk_cell BK251.out 2).trans rfl, (blk_cell BK251.out 3).trans rfl, (blk_cell BK251.out 4).trans rfl, (blk_cell BK251.out 5).trans rfl, (blk_cell BK251.out 6).trans rfl, (blk_cell BK251.out 7).trans rfl, (blk_cell BK251.out 8).trans rfl, (blk_cell BK251.out 9).trans rfl, (blk_cell BK251.out 10).trans rfl, (blk_cell BK251.out 11).trans rfl, (blk_cell BK251.out 12).trans rfl⟩ (fun hHeld => ?_)
   clear hK K
   refine norm_ (a' := ?_) ?_ ?_
   rotate_left
   ·show Act.put _ (some 23) _ = _
    simp only [Act.put, sA_, sB_, sC_, i64_w, i32_w]
    rfl
   refine pu_ (i := 18) (N := some 24) (v := ?_) (a' := ?_) #[true, true, true, true, true, true, true, true, true, true, true, true, true, true, true, true, true, true, true, false] rfl rfl (Or.inl ⟨by rfl, ?_⟩) ?_ ?_
   rotate_left
   ·intro w'
    go_simp
    with_reducible rfl
   rotate_left
   ·simp only [Act.put, sA_, sB_, sC_, i64_w, i32_w]
    rfl
   refine pu_ (i := 19) (N := some 5) (v := ?_) (a' := ?_) #[true, true, true, true, true, true, true, true, true, true, true, true, true, true, true, true, true, true, true, true] rfl rfl (Or.inl ⟨by rfl, ?_⟩) ?_ ?_
   rotate_left
   ·intro w'
    go_simp
    with_reducible rfl
   rotate_left
   ·simp only [Act.put, sA_, sB_, sC_, i64_w, i32_w]
    rfl
   refine done_ (done_of HT_.out (by kernel_rfl)) ?_
   have hnb41 := NB250_251.out
   have hnc41 := NB251_250.out
   have hcz42_0 := cz0_ BK250
   have hcz42_1 := cz1_ BK250
   have hcz42_2 := cz2_ BK250
   have hcz42_3 := cz3_ BK250
   have hcz42_4 : w40.cell? ⟨gb250, 4, none⟩ = some (.int .i64 a0_4) := (blk_cell BK250.out 4).trans rfl
   have hcz42_5 : w40.cell? ⟨gb250, 5, none⟩ = some (.bool a0_5) := (blk_cell BK250.out 5).trans rfl
   have hcz42_6 : w40.cell? ⟨gb250, 6, none⟩ = some (.int .i64 a0_6) := (blk_cell BK250.out 6).trans rfl
   have hcz42_7 : w40.cell? ⟨gb250, 7, none⟩ = some (.int .i64 a0_7) := (blk_cell BK250.out 7).trans rfl
   have hcz42_8 : w40.cell? ⟨gb250, 8, none⟩ = some (.int .i64 a0_8) := (blk_cell BK250.out 8).trans rfl
   have hcz42_9 : w40.cell? ⟨gb250, 9, none⟩ = some (.int .i64 a0_9) := (blk_cell BK250.out 9).trans rfl
   have hcz42_10 : w40.cell? ⟨gb250, 10, none⟩ = some (.bool a0_10) := (blk_cell BK250.out 10).trans rfl
   have hcz42_11 : w40.cell? ⟨gb250, 11, none⟩ = some (.string a0_11) := (blk_cell BK250.out 11).trans rfl
   have hcz42_12 : w40.cell? ⟨gb250, 12, none⟩ = some (.int .i64 a0_12) := (blk_cell BK250.out 12).trans rfl
   have hfz42_0 := fz_ BK250 0
   have hfz42_1 := fz_ BK250 1
   have hfz42_2 := fz_ BK250 2
   have hfz42_3 := fz_ BK250 3
   have hfz42_4 := fz_ BK250 4
   have hfz42_5 := fz_ BK250 5
   have hfz42_6 := fz_ BK250 6
   have hfz42_7 := fz_ BK250 7
   have hfz42_8 := fz_ BK250 8
   have hfz42_9 := fz_ BK250 9
   have hfz42_10 := fz_ BK250 10
   have hfz42_11 := fz_ BK250 11
   have hfz42_12 := fz_ BK250 12
   have hcz43_0 := cz0_ BK251
   have hcz43_1 := cz1_ BK251
   have hcz43_2 := cz2_ BK251
   have hcz43_3 := cz3_ BK251
   have hcz43_4 : w40.cell? ⟨gb251, 4, none⟩ = some (.int .i64 a1_4) := (blk_cell BK251.out 4).trans rfl
   have hcz43_5 : w40.cell? ⟨gb251, 5, none⟩ = some (.bool a1_5) := (blk_cell BK251.out 5).trans rfl
   have hcz43_6 : w40.cell? ⟨gb251, 6, none⟩ = some (.int .i64 a1_6) := (blk_cell BK251.out 6).trans rfl
   have hcz43_7 : w40.cell? ⟨gb251, 7, none⟩ = some (.int .i64 a1_7) := (blk_cell BK251.out 7).trans rfl
   have hcz43_8 : w40.cell? ⟨gb251, 8, none⟩ = some (.int .i64 a1_8) := (blk_cell BK251.out 8).trans rfl
   have hcz43_9 : w40.cell? ⟨gb251, 9, none⟩ = some (.int .i64 a1_9) := (blk_cell BK251.out 9).trans rfl
   have hcz43_10 : w40.cell? ⟨gb251, 10, none⟩ = some (.bool a1_10) := (blk_cell BK251.out 10).trans rfl
   have hcz43_11 : w40.cell? ⟨gb251, 11, none⟩ = some (.string a1_11) := (blk_cell BK251.out 11).trans rfl
   have hcz43_12 : w40.cell? ⟨gb251, 12, none⟩ = some (.int .i64 a1_12) := (blk_cell BK251.out 12).trans rfl
   have hfz43_0 := fz_ BK251 0
   have hfz43_1 := fz_ BK251 1
   have hfz43_2 := fz_ BK251 2
   have hfz43_3 := fz_ BK251 3
   have hfz43_4 := fz_ BK251 4
   have hfz43_5 := fz_ BK251 5
   have hfz43_6 := fz_ BK251 6
   have hfz43_7 := fz_ BK251 7
   have hfz43_8 := fz_ BK251 8
   have hfz43_9 := fz_ BK251 9
   have hfz43_10 := fz_ BK251 10
   have hfz43_11 := fz_ BK251 11
   have hfz43_12 := fz_ BK251 12
   try go_wp2
   go_ret
   exact ⟨by first | rfl | (simp [errW_none, errW_some] <;> rfl) | (simp [*, errW_none, errW_some] <;> rfl), bb2_ HB GE250 GE251⟩
  ·rw [if_neg c32] at H
   have c32b0 : (a0_7 == a1_7) = false := beq_eq_false_iff_ne.mpr c32
   have c32b1 : (a0_7 != a1_7) = true := bne_iff_ne.mpr c32
   obtain rfl := Option.some.inj H
   go_enter Try.func23, Try.ntmps23
   try go_wp2_with (first | ((with_reducible refine gate_dst (N := 2) rfl ?_); refine box_event ?hg (N := 2) ?hd (cs := #[.int .i64 a0_0, .int .i64 a0_1, .int .i64 a0_2, .int .i64 a0_3, .int .i64 a0_4, .bool a0_5, .int .i64 a0_6, .int .i64 a0_7, .int .i64 a0_8, .int .i64 a0_9, .bool a0_10, .string a0_11, .int .i64 a0_12]) (t := 47) ?hr ?_; (case hd => rfl); (case hg => rfl); (case hr => first | (go_simp; done) | (go_simp; rfl)); intro gb250 hg w44 hbox hb; have n0_ := Aside0.mk (bt_ HB hb); have n1_ := Aside0.mk (hbox); have n2_ := gz_ hg HB; have n3_ := gz_ hg HB; clear HB; have HB := n0_; have BK250 := n1_; have GW250 := n2_; have GE250 := n3_; clear n0_ n1_ n2_ n3_; clear hb hbox hg) | ((with_reducible refine gate_dst (N := 3) rfl ?_); refine box_event ?hg (N := 3) ?hd (cs := #[.int .i64 a1_0, .int .i64 a1_1, .int .i64 a1_2, .int .i64 a1_3, .int .i64 a1_4, .bool a1_5, .int .i64 a1_6, .int .i64 a1_7, .int .i64 a1_8, .int .i64 a1_9, .bool a1_10, .string a1_11, .int .i64 a1_12]) (t := 47) ?hr ?_; (case hd => rfl); (case hg => rfl); (case hr => first | (go_simp; done) | (go_simp; rfl)); intro gb251 hg w45 hbox hb; have n0_ := Aside0.mk (lb_ BK250 hb); have n1_ := Aside0.mk (below_step (bb1_ HB GE250) hb); have n2_ := Aside0.mk (hbox); have n3_ := gy_ hg (bb1_ HB GE250); have n4_ := gy_ hg (bb1_ HB GE250); have n5_ := nl_ hg BK250; have n6_ := ng_ hg BK250; clear BK250; clear HB; have BK250 := n0_; have HB := n1_; have BK251 := n2_; have GW251 := n3_; have GE251 := n4_; have NB250_251 := n5_; have NB251_250 := n6_; clear n0_ n1_ n2_ n3_ n4_ n5_ n6_; clear hb hbox hg))
   have n0_ := Aside0.mk (blk_drew BK250.out)
   have n1_ := Aside0.mk (blk_drew BK251.out)
   have n2_ := Aside0.mk (below_drew1 HB.out)
   clear BK250
   clear BK251
   clear HB
   have BK250 := n0_
   have BK251 := n1_
   have HB := n2_
   clear n0_ n1_ n2_
   refine start_ (n := 20) (S := fun w' => w'.cell? ⟨gb250, 0, none⟩ = some (.int .i64 a0_0) ∧ w'.cell? ⟨gb250, 1, none⟩ = some (.int .i64 a0_1) ∧ w'.cell? ⟨gb250, 2, none⟩ = some (.int .i64 a0_2) ∧ w'.cell? ⟨gb250, 3, none⟩ = some (.int .i64 a0_3) ∧ w'.cell? ⟨gb250, 4, none⟩ = some (.int .i64 a0_4) ∧ w'.cell? ⟨gb250, 5, none⟩ = some (.bool a0_5) ∧ w'.cell? ⟨gb250, 6, none⟩ = some (.int .i64 a0_6) ∧ w'.cell? ⟨gb250, 7, none⟩ = some (.int .i64 a0_7) ∧ w'.cell? ⟨gb250, 8, none⟩ = some (.int .i64 a0_8) ∧ w'.cell? ⟨gb250, 9, none⟩ = some (.int .i64 a0_9) ∧ w'.cell? ⟨gb250, 10, none⟩ = some (.bool a0_10) ∧ w'.cell? ⟨gb250, 11, none⟩ = some (.string a0_11) ∧ w'.cell? ⟨gb250, 12, none⟩ = some (.int .i64 a0_12) ∧ w'.cell? ⟨gb251, 0, none⟩ = some (.int .i64 a1_0) ∧ w'.cell? ⟨gb251, 1, none⟩ = some (.int .i64 a1_1) ∧ w'.cell? ⟨gb251, 2, none⟩ = some (.int .i64 a1_2) ∧ w'.cell? ⟨gb251, 3, none⟩ = some (.int .i64 a1_3) ∧ w'.cell? ⟨gb251, 4, none⟩ = some (.int .i64 a1_4) ∧ w'.cell? ⟨gb251, 5, none⟩ = some (.bool a1_5) ∧ w'.cell? ⟨gb251, 6, none⟩ = some (.int .i64 a1_6) ∧ w'.cell? ⟨gb251, 7, none⟩ = some (.int .i64 a1_7) ∧ w'.cell? ⟨gb251, 8, none⟩ = some (.int .i64 a1_8) ∧ w'.cell? ⟨gb251, 9, none⟩ = some (.int .i64 a1_9) ∧ w'.cell? ⟨gb251, 10, none⟩ = some (.bool a1_10) ∧ w'.cell? ⟨gb251, 11, none⟩ = some (.string a1_11) ∧ w'.cell? ⟨gb251, 12, none⟩ = some (.int .i64 a1_12)) (ds := []) #[false, false, false, false, false, false, false, false, false, false, false, false, false, false, false, false, false, false, false, false] (by kernel_rfl) rfl rfl ⟨(blk_cell BK250.out 0).trans rfl, (blk_cell BK250.out 1).trans rfl, (blk_cell BK250.out 2).trans rfl, (blk_cell BK250.out 3).trans rfl, (blk_cell BK250.out 4).trans rfl, (blk_cell BK250.out 5).trans rfl, (blk_cell BK250.out 6).trans rfl, (blk_cell BK250.out 7).trans rfl, (blk_cell BK250.out 8).trans rfl, (blk_cell BK250.out 9).trans rfl, (blk_cell BK250.out 10).trans rfl, (blk_cell BK250.out 11).trans rfl, (blk_cell BK250.out 12).trans rfl, (blk_cell BK251.out 0).trans rfl, (blk_cell BK251.out 1).trans rfl, (blk_cell BK251.out 2).trans rfl, (blk_cell BK251.out 3).trans rfl, (blk_cell BK251.out 4).trans rfl, (blk_cell BK251.out 5).trans rfl, (blk_cell BK251.out 6).trans rfl, (blk_cell BK251.out 7).trans rfl, (blk_cell BK251.out 8).trans rfl, (blk_cell BK251.out 9).trans rfl, (blk_cell BK251.out 10).trans rfl, (blk_cell BK251.out 11).trans rfl, (blk_cell BK251.out 12).trans rfl⟩ (fun hHeld => ?_); refine with_tabW spec_feHand.tab1 spec_feHand.bits1 (fun HT_ HW_ => ?_)
   generalize w45.drew = w46 at BK250 BK251 HB hHeld ⊢
   refine pu_ (i := 0) (N := some 6) (v := ?_) (a' := ?_) #[true, false, false, false, false, false, false, false, false, false, false, false, false, false, false, false, false, false, false, false] rfl rfl (Or.inl ⟨by rfl, ?_⟩) ?_ ?_
   rotate_left
   ·intro w'
    go_simp
    with_reducible rfl
   rotate_left
   ·simp only [Act.put, sA_, sB_, sC_, i64_w, i32_w]
    rfl
   refine pu_ (i := 2) (N := some 8) (v := ?_) (a' := ?_) #[true, false, true, false, false, false, false, false, false, false, false, false, false, false, false, false, false, false, false, false] rfl rfl (Or.inl ⟨by rfl, ?_⟩) ?_ ?_
   rotate_left
   ·intro w'
    go_simp
    with_reducible rfl
   rotate_left
   ·simp only [Act.put, sA_, sB_, sC_, i64_w, i32_w]
    rfl
   refine pu_ (i := 5) (N := some 11) (v := ?_) (a' := ?_) #[true, false, true, false, false, true, false, false, false, false, false, false, false, false, false, false, false, false, false, false] rfl rfl (Or.inl ⟨by rfl, ?_⟩) ?_ ?_
   rotate_left
   ·intro w'
    go_simp
    with_reducible rfl
   rotate_left
   ·simp only [Act.put, sA_, sB_, sC_, i64_w, i32_w]
    rfl
   refine pu_ (i := 7) (N := some 13) (v := ?_) (a' := ?_) #[true, false, true, false, false, true, false, true, false, false, false, false, false, false, false, false, false, false, false, false] rfl rfl (Or.inl ⟨by rfl, ?_⟩) ?_ ?_
   rotate_left
   ·intro w'
    go_simp
    with_reducible rfl
   rotate_left
   ·simp only [Act.put, sA_, sB_, sC_, i64_w, i32_w]
    rfl
   refine pu_ (i := 11) (N := some 17) (v := ?_) (a' := ?_) #[true, false, true, false, false, true, false, true, false, false, false, true, false, false, false, false, false, false, false, false] rfl rfl (Or.inl ⟨by rfl, ?_⟩) ?_ ?_
   rotate_left
   ·intro w'
    go_simp
    with_reducible rfl
   rotate_left
   ·simp only [Act.put, sA_, sB_, sC_, i64_w, i32_w]
    rfl
   refine pu_ (i := 14) (N := some 20) (v := ?_) (a' := ?_) #[true, false, true, false, false, true, false, true, false, false, false, true, false, false, true, false, false, false, false, false] rfl rfl (Or.inl ⟨by rfl, ?_⟩) ?_ ?_
   rotate_left
   ·intro w'
    go_simp
    with_reducible rfl
   rotate_left
   ·simp only [Act.put, sA_, sB_, sC_, i64_w, i32_w]
    rfl
   refine take_ (i := 1) (N := some 7) (v := ?_) (a' := ?_) #[true, true, true, false, false, true, false, true, false, false, false, true, false, false, true, false, false, false, false, false] rfl rfl (take_ofW HT_.out HW_.out (by kernel_rfl)) (fun _ _ _ h => h) (Or.inl ⟨by rfl, ?_⟩) hHeld ?_ ?_
   rotate_left
   ·rintro w' ⟨s0, s1, s2, s3, s4, s5, s6, s7, s8, s9, s10, s11, s12, s13, s14, s15, s16, s17, s18, s19, s20, s21, s22, s23, s24, s25⟩
    go_simp
    with_reducible rfl
   rotate_left
   ·simp only [Act.put, sA_, sB_, sC_, i64_w, i32_w]
    rfl
   refine take_ (i := 3) (N := some 9) (v := ?_) (a' := ?_) #[true, true, true, true, false, true, false, true, false, false, false, true, false, false, true, false, false, false, false, false] rfl rfl (take_ofW HT_.out HW_.out (by kernel_rfl)) (fun _ _ _ h => h) (Or.inl ⟨by rfl, ?_⟩) hHeld ?_ ?_
   rotate_left
   ·rintro w' ⟨s0, s1, s2, s3, s4, s5, s6, s7, s8, s9, s10, s11, s12, s13, s14, s15, s16, s17, s18, s19, s20, s21, s22, s23, s24, s25⟩
    go_simp
    with_reducible rfl
   rotate_left
   ·simp only [Act.put, sA_, sB_, sC_, i64_w, i32_w]
    rfl
   refine take_ (i := 6) (N := some 12) (v := ?_) (a' := ?_) #[true, true, true, true, false, true, true, true, false, false, false, true, false, false, true, false, false, false, false, false] rfl rfl (take_ofW HT_.out HW_.out (by kernel_rfl)) (fun _ _ _ h => h) (Or.inl ⟨by rfl, ?_⟩) hHeld ?_ ?_
   rotate_left
   ·rintro w' ⟨s0, s1, s2, s3, s4, s5, s6, s7, s8, s9, s10, s11, s12, s13, s14, s15, s16, s17, s18, s19, s20, s21, s22, s23, s24, s25⟩
    go_simp
    with_reducible rfl
   rotate_left
   ·simp only [Act.put, sA_, sB_, sC_, i64_w, i32_w]
    rfl
   refine take_ (i := 8) (N := some 14) (v := ?_) (a' := ?_) #[true, true, true, true, false, true, true, true, true, false, false, true, false, false, true, false, false, false, false, false] rfl rfl (take_ofW HT_.out HW_.out (by kernel_rfl)) (fun _ _ _ h => h) (Or.inl ⟨by rfl, ?_⟩) hHeld ?_ ?_
   rotate_left
   ·rintro w' ⟨s0, s1, s2, s3, s4, s5, s6, s7, s8, s9, s10, s11, s12, s13, s14, s15, s16, s17, s18, s19, s20, s21, s22, s23, s24, s25⟩
    go_simp
    with_reducible rfl
   rotate_left
   ·simp only [Act.put, sA_, sB_, sC_, i64_w, i32_w]
    rfl
   refine take_ (i := 12) (N := some 18) (v := ?_) (a' := ?_) #[true, true, true, true, false, true, true, true, true, false, false, true, true, false, true, false, false, false, false, false] rfl rfl (take_ofW HT_.out HW_.out (by kernel_rfl)) (fun _ _ _ h => h) (Or.inl ⟨by rfl, ?_⟩) hHeld ?_ ?_
   rotate_left
   ·rintro w' ⟨s0, s1, s2, s3, s4, s5, s6, s7, s8, s9, s10, s11, s12, s13, s14, s15, s16, s17, s18, s19, s20, s21, s22, s23, s24, s25⟩
    go_simp
    with_reducible rfl
   rotate_left
   ·simp only [Act.put, sA_, sB_, sC_, i64_w, i32_w]
    rfl
   refine take_ (i := 15) (N := some 21) (v := ?_) (a' := ?_) #[true, true, true, true, false, true, true, true, true, false, false, true, true, false, true, true, false, false, false, false] rfl rfl (take_ofW HT_.out HW_.out (by kernel_rfl)) (fun _ _ _ h => h) (Or.inl ⟨by rfl, ?_⟩) hHeld ?_ ?_
   rotate_left
   ·rintro w' ⟨s0, s1, s2, s3, s4, s5, s6, s7, s8, s9, s10, s11, s12, s13, s14, s15, s16, s17, s18, s19, s20, s21, s22, s23, s24, s25⟩
    go_simp
    with_reducible rfl
   rotate_left
   ·simp only [Act.put, sA_, sB_, sC_, i64_w, i32_w]
    rfl
   refine one_ (i := 4) (N := some 10) #[true, true, true, true, true, true, true, true, true, false, false, true, true, false, true, true, false, false, false, false] rfl rfl (one_of HT_.out (by kernel_rfl)) (by decide) (fun K hK => ?_)
   refine goes_ Try.func39 (by kernel_rfl) rfl #[.agg #[.int .i64 a0_0, .int .i64 a0_1, .int .i64 a0_2, .int .i64 a0_3, .int .i64 a0_4, .bool a0_5], .agg #[.int .i64 a1_0, .int .i64 a1_1, .int .i64 a1_2, .int .i64 a1_3, .int .i64 a1_4, .bool a1_5]] (by rfl) rfl rfl args_ ?_
   with_reducible refine (spec_shFar.calls k a0_0 a0_1 a0_2 a0_3 a0_4 a0_5 a1_0 a1_1 a1_2 a1_3 a1_4 a1_5 t252 _ A3.out).mono ?_
   rintro e w47 ⟨rfl, hb⟩
   refine ⟨_, rfl, ?_⟩
   have n0_ := Aside0.mk (lb_ BK250 hb)
   have n1_ := Aside0.mk (lb_ BK251 hb)
   have n2_ := Aside0.mk (below_step (bb2_ HB GE250 GE251) hb)
   clear BK250
   clear BK251
   clear HB
   have BK250 := n0_
   have BK251 := n1_
   have HB := n2_
   clear n0_ n1_ n2_
   (try clear hb)
   (try clear hb2)
   (try clear hk)
   (try clear hi)
   refine hK.out _ _ ⟨(blk_cell BK250.out 0).trans rfl, (blk_cell BK250.out 1).trans rfl, (blk_cell BK250.out 2).trans rfl, (blk_cell BK250.out 3).trans rfl, (blk_cell BK250.out 4).trans rfl, (blk_cell BK250.out 5).trans rfl, (blk_cell BK250.out 6).trans rfl, (blk_cell BK250.out 7).trans rfl, (blk_cell BK250.out 8).trans rfl, (blk_cell BK250.out 9).trans rfl, (blk_cell BK250.out 10).trans rfl, (blk_cell BK250.out 11).trans rfl, (blk_cell BK250.out 12).trans rfl, (blk_cell BK251.out 0).trans rfl, (blk_cell BK251.out 1).trans rfl, (blk_cell BK251.out 2).trans rfl, (blk_cell BK251.out 3).trans rfl, (blk_cell BK251.out 4).trans rfl, (blk_cell BK251.out 5).trans rfl, (blk_cell BK251.out 6).trans rfl, (blk_cell BK251.out 7).trans rfl, (blk_cell BK251.out 8).trans rfl, (blk_cell BK251.out 9).trans rfl, (blk_cell BK251.out 10).trans rfl, (blk_cell BK251.out 11).trans rfl, (blk_cell BK251.out 12).trans rfl⟩ (fun hHeld => ?_)
   clear hK K
   refine norm_ (a' := ?_) ?_ ?_
   rotate_left
   ·show Act.put _ (some 10) _ = _
    simp only [Act.put, sA_, sB_, sC_, i64_w, i32_w]
    rfl
   refine one_ (i := 9) (N := some 15) #[true, true, true, true, true, true, true, true, true, true, false, true, true, false, true, true, false, false, false, false] rfl rfl (one_of HT_.out (by kernel_rfl)) (by decide) (fun K hK => ?_)
   refine goes_ Try.func40 (by kernel_rfl) rfl #[.agg #[.int .i64 a0_8, .int .i64 a0_9, .bool a0_10], .agg #[.int .i64 a1_8, .int .i64 a1_9, .bool a1_10]] (by rfl) rfl rfl args_ ?_
   with_reducible refine (spec_plFar.calls a0_8 a0_9 a0_10 a1_8 a1_9 a1_10 t253 _ A4.out).mono ?_
   rintro e w48 ⟨rfl, hb⟩
   refine ⟨_, rfl, ?_⟩
   have n0_ := Aside0.mk (lb_ BK250 hb)
   have n1_ := Aside0.mk (lb_ BK251 hb)
   have n2_ := Aside0.mk (below_step (bb2_ HB GE250 GE251) hb)
   clear BK250
   clear BK251
   clear HB
   have BK250 := n0_
   have BK251 := n1_
   have HB := n2_
   clear n0_ n1_ n2_
   (try clear hb)
   (try clear hb2)
   (try clear hk)
   (try clear hi)
   refine hK.out _ _ ⟨(blk_cell BK250.out 0).trans rfl, (blk_cell BK250.out 1).trans rfl, (blk_cell BK250.out 2).trans rfl, (blk_cell BK250.out 3).trans rfl, (blk_cell BK250.out 4).trans rfl, (blk_cell BK250.out 5).trans rfl, (blk_cell BK250.out 6).trans rfl, (blk_cell BK250.out 7).trans rfl, (blk_cell BK250.out 8).trans rfl, (blk_cell BK250.out 9).trans rfl, (blk_cell BK250.out 10).trans rfl, (blk_cell BK250.out 11).trans rfl, (blk_cell BK250.out 12).trans rfl, (blk_cell BK251.out 0).trans rfl, (blk_cell BK251.out 1).trans rfl, (blk_cell BK251.out 2).trans rfl, (blk_cell BK251.out 3).trans rfl, (blk_cell BK251.out 4).trans rfl, (blk_cell BK251.out 5).trans rfl, (blk_cell BK251.out 6).trans rfl, (blk_cell BK251.out 7).trans rfl, (blk_cell BK251.out 8).trans rfl, (blk_cell BK251.out 9).trans rfl, (blk_cell BK251.out 10).trans rfl, (blk_cell BK251.out 11).trans rfl, (blk_cell BK251.out 12).trans rfl⟩ (fun hHeld => ?_)
   clear hK K
   refine norm_ (a' := ?_) ?_ ?_
   rotate_left
   ·show Act.put _ (some 15) _ = _
    simp only [Act.put, sA_, sB_, sC_, i64_w, i32_w]
    rfl
   refine pu_ (i := 10) (N := some 16) (v := ?_) (a' := ?_) #[true, true, true, true, true, true, true, true, true, true, true, true, true, false, true, true, false, false, false, false] rfl rfl (Or.inl ⟨by rfl, ?_⟩) ?_ ?_
   rotate_left
   ·intro w'
    go_simp
    with_reducible rfl
   rotate_left
   ·simp only [Act.put, sA_, sB_, sC_, i64_w, i32_w]
    rfl
   refine one_ (i := 13) (N := some 19) #[true, true, true, true, true, true, true, true, true, true, true, true, true, true, true, true, false, false, false, false] rfl rfl (one_of HT_.out (by kernel_rfl)) (by decide) (fun K hK => ?_)
   refine goes_ Try.func17 (by kernel_rfl) rfl #[.agg #[.string a0_11, .int .i64 a0_12]] (by rfl) rfl rfl args_ ?_
   with_reducible refine (spec_mvAll.calls k a0_11 a0_12 t254 _ A5.out).mono ?_
   rintro e w49 ⟨rfl, hb⟩
   refine ⟨_, rfl, ?_⟩
   have n0_ := Aside0.mk (lb_ BK250 hb)
   have n1_ := Aside0.mk (lb_ BK251 hb)
   have n2_ := Aside0.mk (below_step (bb2_ HB GE250 GE251) hb)
   clear BK250
   clear BK251
   clear HB
   have BK250 := n0_
   have BK251 := n1_
   have HB := n2_
   clear n0_ n1_ n2_
   (try clear hb)
   (try clear hb2)
   (try clear hk)
   (try clear hi)
   refine hK.out _ _ ⟨(blk_cell BK250.out 0).trans rfl, (blk_cell BK250.out 1).trans rfl, (blk_cell BK250.out 2).trans rfl, (blk_cell BK250.out 3).trans rfl, (blk_cell BK250.out 4).trans rfl, (blk_cell BK250.out 5).trans rfl, (blk_cell BK250.out 6).trans rfl, (blk_cell BK250.out 7).trans rfl, (blk_cell BK250.out 8).trans rfl, (blk_cell BK250.out 9).trans rfl, (blk_cell BK250.out 10).trans rfl, (blk_cell BK250.out 11).trans rfl, (blk_cell BK250.out 12).trans rfl, (blk_cell BK251.out 0).trans rfl, (blk_cell BK251.out 1).trans rfl, (blk_cell BK251.out 2).trans rfl, (blk_cell BK251.out 3).trans rfl, (blk_cell BK251.out 4).trans rfl, (blk_cell BK251.out 5).trans rfl, (blk_cell BK251.out 6).trans rfl, (blk_cell BK251.out 7).trans rfl, (blk_cell BK251.out 8).trans rfl, (blk_cell BK251.out 9).trans rfl, (blk_cell BK251.out 10).trans rfl, (blk_cell BK251.out 11).trans rfl, (blk_cell BK251.out 12).trans rfl⟩ (fun hHeld => ?_)
   clear hK K
   refine norm_ (a' := ?_) ?_ ?_
   rotate_left
   ·show Act.put _ (some 19) _ = _
    simp only [Act.put, sA_, sB_, sC_, i64_w, i32_w]
    rfl
   refine one_ (i := 16) (N := some 22) #[true, true, true, true, true, true, true, true, true, true, true, true, true, true, true, true, true, false, false, false] rfl rfl (one_of HT_.out (by kernel_rfl)) (by decide) (fun K hK => ?_)
   refine goes_ Try.func17 (by kernel_rfl) rfl #[.agg #[.string a1_11, .int .i64 a1_12]] (by rfl) rfl rfl args_ ?_
   with_reducible refine (spec_mvAll.calls k a1_11 a1_12 t255 _ A6.out).mono ?_
   rintro e w50 ⟨rfl, hb⟩
   refine ⟨_, rfl, ?_⟩
   have n0_ := Aside0.mk (lb_ BK250 hb)
   have n1_ := Aside0.mk (lb_ BK251 hb)
   have n2_ := Aside0.mk (below_step (bb2_ HB GE250 GE251) hb)
   clear BK250
   clear BK251
   clear HB
   have BK250 := n0_
   have BK251 := n1_
   have HB := n2_
   clear n0_ n1_ n2_
   (try clear hb)
   (try clear hb2)
   (try clear hk)
   (try clear hi)
   refine hK.out _ _ ⟨(blk_cell BK250.out 0).trans rfl, (blk_cell BK250.out 1).trans rfl, (blk_cell BK250.out 2).trans rfl, (blk_cell BK250.out 3).trans rfl, (blk_cell BK250.out 4).trans rfl, (blk_cell BK250.out 5).trans rfl, (blk_cell BK250.out 6).trans rfl, (blk_cell BK250.out 7).trans rfl, (blk_cell BK250.out 8).trans rfl, (blk_cell BK250.out 9).trans rfl, (blk_cell BK250.out 10).trans rfl, (blk_cell BK250.out 11).trans rfl, (blk_cell BK250.out 12).trans rfl, (blk_cell BK251.out 0).trans rfl, (blk_cell BK251.out 1).trans rfl, (blk_cell BK251.out 2).trans rfl, (blk_cell BK251.out 3).trans rfl, (blk_cell BK251.out 4).trans rfl, (blk_cell BK251.out 5).trans rfl, (blk_cell BK251.out 6).trans rfl, (blk_cell BK251.out 7).trans rfl, (blk_cell BK251.out 8).trans rfl, (blk_cell BK251.out 9).trans rfl, (blk_cell BK251.out 10).trans rfl, (blk_cell BK251.out 11).trans rfl, (blk_cell BK251.out 12).trans rfl⟩ (fun hHeld => ?_)
   clear hK K
   refine norm_ (a' := ?_) ?_ ?_
   rotate_left
   ·show Act.put _ (some 22) _ = _
    simp only [Act.put, sA_, sB_, sC_, i64_w, i32_w]
    rfl
   refine one_ (i := 17) (N := some 23) #[true, true, true, true, true, true, true, true, true, true, true, true, true, true, true, true, true, true, false, false] rfl rfl (one_of HT_.out (by kernel_rfl)) (by decide) (fun K hK => ?_)
   refine goes_ Try.func20 (by kernel_rfl) rfl #[.string t254, .string t255] (by rfl) rfl rfl args_ ?_
   with_reducible refine (spec_feSteps.calls k t254 t255 t256 _ A7.out).mono ?_
   rintro e w51 ⟨rfl, hb⟩
   refine ⟨_, rfl, ?_⟩
   have n0_ := Aside0.mk (lb_ BK250 hb)
   have n1_ := Aside0.mk (lb_ BK251 hb)
   have n2_ := Aside0.mk (below_step (bb2_ HB GE250 GE251) hb)
   clear BK250
   clear BK251
   clear HB
   have BK250 := n0_
   have BK251 := n1_
   have HB := n2_
   clear n0_ n1_ n2_
   (try clear hb)
   (try clear hb2)
   (try clear hk)
   (try clear hi)
   refine hK.out _ _ ⟨(blk_cell BK250.out 0).trans rfl, (blk_cell BK250.out 1).trans rfl, (blk_cell BK250.out 2).trans rfl, (blk_cell BK250.out 3).trans rfl, (blk_cell BK250.out 4).trans rfl, (blk_cell BK250.out 5).trans rfl, (blk_cell BK250.out 6).trans rfl, (blk_cell BK250.out 7).trans rfl, (blk_cell BK250.out 8).trans rfl, (blk_cell BK250.out 9).trans rfl, (blk_cell BK250.out 10).trans rfl, (blk_cell BK250.out 11).trans rfl, (blk_cell BK250.out 12).trans rfl, (blk_cell BK251.out 0).trans rfl, (blk_cell BK251.out 1).trans rfl, (blk_cell BK251.out 2).trans rfl, (blk_cell BK251.out 3).trans rfl, (blk_cell BK251.out 4).trans rfl, (blk_cell BK251.out 5).trans rfl, (blk_cell BK251.out 6).trans rfl, (blk_cell BK251.out 7).trans rfl, (blk_cell BK251.out 8).trans rfl, (blk_cell BK251.out 9).trans rfl, (blk_cell BK251.out 10).trans rfl, (blk_cell BK251.out 11).trans rfl, (blk_cell BK251.out 12).trans rfl⟩ (fun hHeld => ?_)
   clear hK K
   refine norm_ (a' := ?_) ?_ ?_
   rotate_left
   ·show Act.put _ (some 23) _ = _
    simp only [Act.put, sA_, sB_, sC_, i64_w, i32_w]
    rfl
   refine pu_ (i := 18) (N := some 24) (v := ?_) (a' := ?_) #[true, true, true, true, true, true, true, true, true, true, true, true, true, true, true, true, true, true, true, false] rfl rfl (Or.inl ⟨by rfl, ?_⟩) ?_ ?_
   rotate_left
   ·intro w'
    go_simp
    with_reducible rfl
   rotate_left
   ·simp only [Act.put, sA_, sB_, sC_, i64_w, i32_w]
    rfl
   refine pu_ (i := 19) (N := some 5) (v := ?_) (a' := ?_) #[true, true, true, true, true, true, true, true, true, true, true, true, true, true, true, true, true, true, true, true] rfl rfl (Or.inl ⟨by rfl, ?_⟩) ?_ ?_
   rotate_left
   ·intro w'
    go_simp
    with_reducible rfl
   rotate_left
   ·simp only [Act.put, sA_, sB_, sC_, i64_w, i32_w]
    rfl
   refine done_ (done_of HT_.out (by kernel_rfl)) ?_
   have hnb52 := NB250_251.out
   have hnc52 := NB251_250.out
   have hcz53_0 := cz0_ BK250
   have hcz53_1 := cz1_ BK250
   have hcz53_2 := cz2_ BK250
   have hcz53_3 := cz3_ BK250
   have hcz53_4 : w51.cell? ⟨gb250, 4, none⟩ = some (.int .i64 a0_4) := (blk_cell BK250.out 4).trans rfl
   have hcz53_5 : w51.cell? ⟨gb250, 5, none⟩ = some (.bool a0_5) := (blk_cell BK250.out 5).trans rfl
   have hcz53_6 : w51.cell? ⟨gb250, 6, none⟩ = some (.int .i64 a0_6) := (blk_cell BK250.out 6).trans rfl
   have hcz53_7 : w51.cell? ⟨gb250, 7, none⟩ = some (.int .i64 a0_7) := (blk_cell BK250.out 7).trans rfl
   have hcz53_8 : w51.cell? ⟨gb250, 8, none⟩ = some (.int .i64 a0_8) := (blk_cell BK250.out 8).trans rfl
   have hcz53_9 : w51.cell? ⟨gb250, 9, none⟩ = some (.int .i64 a0_9) := (blk_cell BK250.out 9).trans rfl
   have hcz53_10 : w51.cell? ⟨gb250, 10, none⟩ = some (.bool a0_10) := (blk_cell BK250.out 10).trans rfl
   have hcz53_11 : w51.cell? ⟨gb250, 11, none⟩ = some (.string a0_11) := (blk_cell BK250.out 11).trans rfl
   have hcz53_12 : w51.cell? ⟨gb250, 12, none⟩ = some (.int .i64 a0_12) := (blk_cell BK250.out 12).trans rfl
   have hfz53_0 := fz_ BK250 0
   have hfz53_1 := fz_ BK250 1
   have hfz53_2 := fz_ BK250 2
   have hfz53_3 := fz_ BK250 3
   have hfz53_4 := fz_ BK250 4
   have hfz53_5 := fz_ BK250 5
   have hfz53_6 := fz_ BK250 6
   have hfz53_7 := fz_ BK250 7
   have hfz53_8 := fz_ BK250 8
   have hfz53_9 := fz_ BK250 9
   have hfz53_10 := fz_ BK250 10
   have hfz53_11 := fz_ BK250 11
   have hfz53_12 := fz_ BK250 12
   have hcz54_0 := cz0_ BK251
   have hcz54_1 := cz1_ BK251
   have hcz54_2 := cz2_ BK251
   have hcz54_3 := cz3_ BK251
   have hcz54_4 : w51.cell? ⟨gb251, 4, none⟩ = some (.int .i64 a1_4) := (blk_cell BK251.out 4).trans rfl
   have hcz54_5 : w51.cell? ⟨gb251, 5, none⟩ = some (.bool a1_5) := (blk_cell BK251.out 5).trans rfl
   have hcz54_6 : w51.cell? ⟨gb251, 6, none⟩ = some (.int .i64 a1_6) := (blk_cell BK251.out 6).trans rfl
   have hcz54_7 : w51.cell? ⟨gb251, 7, none⟩ = some (.int .i64 a1_7) := (blk_cell BK251.out 7).trans rfl
   have hcz54_8 : w51.cell? ⟨gb251, 8, none⟩ = some (.int .i64 a1_8) := (blk_cell BK251.out 8).trans rfl
   have hcz54_9 : w51.cell? ⟨gb251, 9, none⟩ = some (.int .i64 a1_9) := (blk_cell BK251.out 9).trans rfl
   have hcz54_10 : w51.cell? ⟨gb251, 10, none⟩ = some (.bool a1_10) := (blk_cell BK251.out 10).trans rfl
   have hcz54_11 : w51.cell? ⟨gb251, 11, none⟩ = some (.string a1_11) := (blk_cell BK251.out 11).trans rfl
   have hcz54_12 : w51.cell? ⟨gb251, 12, none⟩ = some (.int .i64 a1_12) := (blk_cell BK251.out 12).trans rfl
   have hfz54_0 := fz_ BK251 0
   have hfz54_1 := fz_ BK251 1
   have hfz54_2 := fz_ BK251 2
   have hfz54_3 := fz_ BK251 3
   have hfz54_4 := fz_ BK251 4
   have hfz54_5 := fz_ BK251 5
   have hfz54_6 := fz_ BK251 6
   have hfz54_7 := fz_ BK251 7
   have hfz54_8 := fz_ BK251 8
   have hfz54_9 := fz_ BK251 9
   have hfz54_10 := fz_ BK251 10
   have hfz54_11 := fz_ BK251 11
   have hfz54_12 := fz_ BK251 12
   try go_wp2
   go_ret
   exact ⟨by first | rfl | (simp [errW_none, errW_some] <;> rfl) | (simp [*, errW_none, errW_some] <;> rfl), bb2_ HB GE250 GE251⟩

/-! ### spec_HandDistance: function 13 -/
def spec_HandDistance.f (k : Nat) (a0_0 : Int) (a0_1 : Int) (a0_2 : Int) (a0_3 : Int) (a0_4 : Int) (a0_5 : Bool) (a0_6 : Int) (a0_7 : Int) (a0_8 : Int) (a0_9 : Int) (a0_10 : Bool) (a0_11 : ByteArray) (a0_12 : Int) (a1_0 : Int) (a1_1 : Int) (a1_2 : Int) (a1_3 : Int) (a1_4 : Int) (a1_5 : Bool) (a1_6 : Int) (a1_7 : Int) (a1_8 : Int) (a1_9 : Int) (a1_10 : Bool) (a1_11 : ByteArray) (a1_12 : Int) : Option (Int × Bool) := (spec_siHand.f k a0_0 a0_1 a0_2 a0_3 a0_4 a0_5 a0_6 a0_7 a0_8 a0_9 a0_10 a0_11 a0_12).bind fun t259 => (if t259 = true then ((spec_siHand.f k a1_0 a1_1 a1_2 a1_3 a1_4 a1_5 a1_6 a1_7 a1_8 a1_9 a1_10 a1_11 a1_12).bind fun t260 => (if t260 = true then ((spec_feHand.f k a0_0 a0_1 a0_2 a0_3 a0_4 a0_5 a0_6 a0_7 a0_8 a0_9 a0_10 a0_11 a0_12 a1_0 a1_1 a1_2 a1_3 a1_4 a1_5 a1_6 a1_7 a1_8 a1_9 a1_10 a1_11 a1_12).bind fun t261 => (some (t261, true))) else (some (0, false)))) else (some (0, false)))
theorem spec_HandDistance.mono : ∀ a0 a1 a2 a3 a4 a5 a6 a7 a8 a9 a10 a11 a12 a13 a14 a15 a16 a17 a18 a19 a20 a21 a22 a23 a24 a25 k, LeO (spec_HandDistance.f k a0 a1 a2 a3 a4 a5 a6 a7 a8 a9 a10 a11 a12 a13 a14 a15 a16 a17 a18 a19 a20 a21 a22 a23 a24 a25) (spec_HandDistance.f (k + 1) a0 a1 a2 a3 a4 a5 a6 a7 a8 a9 a10 a11 a12 a13 a14 a15 a16 a17 a18 a19 a20 a21 a22 a23 a24 a25) := by
 intro a0 a1 a2 a3 a4 a5 a6 a7 a8 a9 a10 a11 a12 a13 a14 a15 a16 a17 a18 a19 a20 a21 a22 a23 a24 a25 k
 unfold spec_HandDistance.f
 repeat' first
   | (with_reducible exact spec_feHand.mono _ _ _ _ _ _ _ _ _ _ _ _ _ _ _ _ _ _ _ _ _ _ _ _ _ _ _)
   | (with_reducible exact spec_siHand.mono _ _ _ _ _ _ _ _ _ _ _ _ _ _)
   | (with_reducible exact LeO.refl _)
   | (with_reducible exact LeO.none _)
   | (with_reducible refine LeO.ite ?_ ?_)
   | (with_reducible refine LeO.bind ?_ (fun _ => ?_))
   | exact LeO.none _
   | refine LeO.ite ?_ ?_
   | refine LeO.bind ?_ (fun _ => ?_)
set_option maxHeartbeats 8000000 in
set_option maxRecDepth 100000 in
theorem spec_HandDistance.calls (k : Nat) (a0_0 : Int) (a0_1 : Int) (a0_2 : Int) (a0_3 : Int) (a0_4 : Int) (a0_5 : Bool) (a0_6 : Int) (a0_7 : Int) (a0_8 : Int) (a0_9 : Int) (a0_10 : Bool) (a0_11 : ByteArray) (a0_12 : Int) (a1_0 : Int) (a1_1 : Int) (a1_2 : Int) (a1_3 : Int) (a1_4 : Int) (a1_5 : Bool) (a1_6 : Int) (a1_7 : Int) (a1_8 : Int) (a1_9 : Int) (a1_10 : Bool) (a1_11 : ByteArray) (a1_12 : Int) (r1 : Int) (r2 : Bool) (w : World) (h : spec_HandDistance.f k a0_0 a0_1 a0_2 a0_3 a0_4 a0_5 a0_6 a0_7 a0_8 a0_9 a0_10 a0_11 a0_12 a1_0 a1_1 a1_2 a1_3 a1_4 a1_5 a1_6 a1_7 a1_8 a1_9 a1_10 a1_11 a1_12 = some (r1, r2)) :
  Calls Try.prog 13 #[.agg #[.int .i64 a0_0, .int .i64 a0_1, .int .i64 a0_2, .int .i64 a0_3, .int .i64 a0_4, .bool a0_5, .int .i64 a0_6, .int .i64 a0_7, .int .i64 a0_8, .int .i64 a0_9, .bool a0_10, .string a0_11, .int .i64 a0_12], .agg #[.int .i64 a1_0, .int .i64 a1_1, .int .i64 a1_2, .int .i64 a1_3, .int .i64 a1_4, .bool a1_5, .int .i64 a1_6, .int .i64 a1_7, .int .i64 a1_8, .int .i64 a1_9, .bool a1_10, .string a1_11, .int .i64 a1_12]] w fun e w' => e = .returned (.tuple #[.int .i64 r1, .bool r2]) ∧ Below w.heap.size w w' := by
 have hu47 := Try.underlying47
 have HB := Aside0.mk (Below.refl w.heap.size w)
 have H : ((spec_siHand.f k a0_0 a0_1 a0_2 a0_3 a0_4 a0_5 a0_6 a0_7 a0_8 a0_9 a0_10 a0_11 a0_12).bind fun t259 => (if t259 = true then ((spec_siHand.f k a1_0 a1_1 a1_2 a1_3 a1_4 a1_5 a1_6 a1_7 a1_8 a1_9 a1_10 a1_11 a1_12).bind fun t260 => (if t260 = true then ((spec_feHand.f k a0_0 a0_1 a0_2 a0_3 a0_4 a0_5 a0_6 a0_7 a0_8 a0_9 a0_10 a0_11 a0_12 a1_0 a1_1 a1_2 a1_3 a1_4 a1_5 a1_6 a1_7 a1_8 a1_9 a1_10 a1_11 a1_12).bind fun t261 => (some (t261, true))) else (some (0, false)))) else (some (0, false)))) = some (r1, r2) := h
 clear h
 replace H := Option.bind_eq_some_iff.mp H
 obtain ⟨t259, A30, H⟩ := H
 try dsimp only at H
 have A3 := Aside0.mk A30
 clear A30
 by_cases c4 : t259 = true
 ·subst c4
  have H1 : ((spec_siHand.f k a1_0 a1_1 a1_2 a1_3 a1_4 a1_5 a1_6 a1_7 a1_8 a1_9 a1_10 a1_11 a1_12).bind fun t260 => (if t260 = true then ((spec_feHand.f k a0_0 a0_1 a0_2 a0_3 a0_4 a0_5 a0_6 a0_7 a0_8 a0_9 a0_10 a0_11 a0_12 a1_0 a1_1 a1_2 a1_3 a1_4 a1_5 a1_6 a1_7 a1_8 a1_9 a1_10 a1_11 a1_12).bind fun t261 => (some (t261, true))) else (some (0, false)))) = some (r1, r2) := by rw [if_pos rfl] at H; exact H
  clear H
  have H := H1
  clear H1
  replace H := Option.bind_eq_some_iff.mp H
  obtain ⟨t260, A50, H⟩ := H
  try dsimp only at H
  have A5 := Aside0.mk A50
  clear A50
  by_cases c6 : t260 = true
  ·subst c6
   have H1 : ((spec_feHand.f k a0_0 a0_1 a0_2 a0_3 a0_4 a0_5 a0_6 a0_7 a0_8 a0_9 a0_10 a0_11 a0_12 a1_0 a1_1 a1_2 a1_3 a1_4 a1_5 a1_6 a1_7 a1_8 a1_9 a1_10 a1_11 a1_12).bind fun t261 => (some (t261, true))) = some (r1, r2) := by rw [if_pos rfl] at H; exact H
   clear H
   have H := H1
   clear H1
   replace H := Option.bind_eq_some_iff.mp H
   obtain ⟨t261, A70, H⟩ := H
   try dsimp only at H
   have A7 := Aside0.mk A70
   clear A70
   simp only [Option.some.injEq, Prod.mk.injEq] at H
   obtain ⟨rfl, rfl⟩ := H
   go_enter Try.func13, Try.ntmps13
   go_wp2_with (first | ((with_reducible refine gate_dst (N := 2) rfl ?_); refine box_event ?hg (N := 2) ?hd (cs := #[.int .i64 a0_0, .int .i64 a0_1, .int .i64 a0_2, .int .i64 a0_3, .int .i64 a0_4, .bool a0_5, .int .i64 a0_6, .int .i64 a0_7, .int .i64 a0_8, .int .i64 a0_9, .bool a0_10, .string a0_11, .int .i64 a0_12]) (t := 47) ?hr ?_; (case hd => rfl); (case hg => rfl); (case hr => first | (go_simp; done) | (go_simp; rfl)); intro gb257 hg w8 hbox hb; have n0_ := Aside0.mk (bt_ HB hb); have n1_ := Aside0.mk (hbox); have n2_ := gz_ hg HB; have n3_ := gz_ hg HB; clear HB; have HB := n0_; have BK257 := n1_; have GW257 := n2_; have GE257 := n3_; clear n0_ n1_ n2_ n3_; clear hb hbox hg) | ((with_reducible refine gate_dst (N := 3) rfl ?_); refine box_event ?hg (N := 3) ?hd (cs := #[.int .i64 a1_0, .int .i64 a1_1, .int .i64 a1_2, .int .i64 a1_3, .int .i64 a1_4, .bool a1_5, .int .i64 a1_6, .int .i64 a1_7, .int .i64 a1_8, .int .i64 a1_9, .bool a1_10, .string a1_11, .int .i64 a1_12]) (t := 47) ?hr ?_; (case hd => rfl); (case hg => rfl); (case hr => first | (go_simp; done) | (go_simp; rfl)); intro gb258 hg w9 hbox hb; have n0_ := Aside0.mk (lb_ BK257 hb); have n1_ := Aside0.mk (below_step (bb1_ HB GE257) hb); have n2_ := Aside0.mk (hbox); have n3_ := gy_ hg (bb1_ HB GE257); have n4_ := gy_ hg (bb1_ HB GE257); have n5_ := nl_ hg BK257; have n6_ := ng_ hg BK257; clear BK257; clear HB; have BK257 := n0_; have HB := n1_; have BK258 := n2_; have GW258 := n3_; have GE258 := n4_; have NB257_258 := n5_; have NB258_257 := n6_; clear n0_ n1_ n2_ n3_ n4_ n5_ n6_; clear hb hbox hg; have hnb10 := NB257_258.out; have hnc10 := NB258_257.out; have hcz11_0 := cz0_ BK257; have hcz11_1 := cz1_ BK257; have hcz11_2 := cz2_ BK257; have hcz11_3 := cz3_ BK257; have hcz11_4 : w9.cell? ⟨gb257, 4, none⟩ = some (.int .i64 a0_4) := (blk_cell BK257.out 4).trans rfl; have hcz11_5 : w9.cell? ⟨gb257, 5, none⟩ = some (.bool a0_5) := (blk_cell BK257.out 5).trans rfl; have hcz11_6 : w9.cell? ⟨gb257, 6, none⟩ = some (.int .i64 a0_6) := (blk_cell BK257.out 6).trans rfl; have hcz11_7 : w9.cell? ⟨gb257, 7, none⟩ = some (.int .i64 a0_7) := (blk_cell BK257.out 7).trans rfl; have hcz11_8 : w9.cell? ⟨gb257, 8, none⟩ = some (.int .i64 a0_8) := (blk_cell BK257.out 8).trans rfl; have hcz11_9 : w9.cell? ⟨gb257, 9, none⟩ = some (.int .i64 a0_9) := (blk_cell BK257.out 9).trans rfl; have hcz11_10 : w9.cell? ⟨gb257, 10, none⟩ = some (.bool a0_10) := (blk_cell BK257.out 10).trans rfl; have hcz11_11 : w9.cell? ⟨gb257, 11, none⟩ = some (.string a0_11) := (blk_cell BK257.out 11).trans rfl; have hcz11_12 : w9.cell? ⟨gb257, 12, none⟩ = some (.int .i64 a0_12) := (blk_cell BK257.out 12).trans rfl; have hfz11_0 := fz_ BK257 0; have hfz11_1 := fz_ BK257 1; have hfz11_2 := fz_ BK257 2; have hfz11_3 := fz_ BK257 3; have hfz11_4 := fz_ BK257 4; have hfz11_5 := fz_ BK257 5; have hfz11_6 := fz_ BK257 6; have hfz11_7 := fz_ BK257 7; have hfz11_8 := fz_ BK257 8; have hfz11_9 := fz_ BK257 9; have hfz11_10 := fz_ BK257 10; have hfz11_11 := fz_ BK257 11; have hfz11_12 := fz_ BK257 12) | ((with_reducible refine gate_callee (f := 22) rfl ?_); refine goesL_ (some 7) rfl rfl Try.func22 (by kernel_rfl) rfl #[.agg #[.int .i64 a0_0, .int .i64 a0_1, .int .i64 a0_2, .int .i64 a0_3, .int .i64 a0_4, .bool a0_5, .int .i64 a0_6, .int .i64 a0_7, .int .i64 a0_8, .int .i64 a0_9, .bool a0_10, .string a0_11, .int .i64 a0_12]] rfl args_ ?_; (with_reducible refine (spec_siHand.calls k a0_0 a0_1 a0_2 a0_3 a0_4 a0_5 a0_6 a0_7 a0_8 a0_9 a0_10 a0_11 a0_12 true _ A3.out).mono ?_); rintro e w12 ⟨rfl, hb⟩; refine ⟨_, rfl, ?_⟩; have n0_ := Aside0.mk (lb_ BK257 hb); have n1_ := Aside0.mk (lb_ BK258 hb); have n2_ := Aside0.mk (below_step (bb2_ HB GE257 GE258) hb); clear BK257; clear BK258; clear HB; have BK257 := n0_; have BK258 := n1_; have HB := n2_; clear n0_ n1_ n2_; (try clear hb); (try clear hb2); (try clear hk); (try clear hi); have hcz13_0 := cz0_ BK258; have hcz13_1 := cz1_ BK258; have hcz13_2 := cz2_ BK258; have hcz13_3 := cz3_ BK258; have hcz13_4 : w12.cell? ⟨gb258, 4, none⟩ = some (.int .i64 a1_4) := (blk_cell BK258.out 4).trans rfl; have hcz13_5 : w12.cell? ⟨gb258, 5, none⟩ = some (.bool a1_5) := (blk_cell BK258.out 5).trans rfl; have hcz13_6 : w12.cell? ⟨gb258, 6, none⟩ = some (.int .i64 a1_6) := (blk_cell BK258.out 6).trans rfl; have hcz13_7 : w12.cell? ⟨gb258, 7, none⟩ = some (.int .i64 a1_7) := (blk_cell BK258.out 7).trans rfl; have hcz13_8 : w12.cell? ⟨gb258, 8, none⟩ = some (.int .i64 a1_8) := (blk_cell BK258.out 8).trans rfl; have hcz13_9 : w12.cell? ⟨gb258, 9, none⟩ = some (.int .i64 a1_9) := (blk_cell BK258.out 9).trans rfl; have hcz13_10 : w12.cell? ⟨gb258, 10, none⟩ = some (.bool a1_10) := (blk_cell BK258.out 10).trans rfl; have hcz13_11 : w12.cell? ⟨gb258, 11, none⟩ = some (.string a1_11) := (blk_cell BK258.out 11).trans rfl; have hcz13_12 : w12.cell? ⟨gb258, 12, none⟩ = some (.int .i64 a1_12) := (blk_cell BK258.out 12).trans rfl; have hfz13_0 := fz_ BK258 0; have hfz13_1 := fz_ BK258 1; have hfz13_2 := fz_ BK258 2; have hfz13_3 := fz_ BK258 3; have hfz13_4 := fz_ BK258 4; have hfz13_5 := fz_ BK258 5; have hfz13_6 := fz_ BK258 6; have hfz13_7 := fz_ BK258 7; have hfz13_8 := fz_ BK258 8; have hfz13_9 := fz_ BK258 9; have hfz13_10 := fz_ BK258 10; have hfz13_11 := fz_ BK258 11; have hfz13_12 := fz_ BK258 12) | (go_at_call 22; (with_reducible refine (spec_siHand.calls k a1_0 a1_1 a1_2 a1_3 a1_4 a1_5 a1_6 a1_7 a1_8 a1_9 a1_10 a1_11 a1_12 true _ A5.out).mono ?_); rintro e w14 ⟨rfl, hb⟩; have n0_ := Aside0.mk (lb_ BK257 hb); have n1_ := Aside0.mk (lb_ BK258 hb); have n2_ := Aside0.mk (below_step (bb2_ HB GE257 GE258) hb); clear BK257; clear BK258; clear HB; have BK257 := n0_; have BK258 := n1_; have HB := n2_; clear n0_ n1_ n2_; (try clear hb); (try clear hb2); (try clear hk); (try clear hi); have hcz15_0 := cz0_ BK257; have hcz15_1 := cz1_ BK257; have hcz15_2 := cz2_ BK257; have hcz15_3 := cz3_ BK257; have hcz15_4 : w14.cell? ⟨gb257, 4, none⟩ = some (.int .i64 a0_4) := (blk_cell BK257.out 4).trans rfl; have hcz15_5 : w14.cell? ⟨gb257, 5, none⟩ = some (.bool a0_5) := (blk_cell BK257.out 5).trans rfl; have hcz15_6 : w14.cell? ⟨gb257, 6, none⟩ = some (.int .i64 a0_6) := (blk_cell BK257.out 6).trans rfl; have hcz15_7 : w14.cell? ⟨gb257, 7, none⟩ = some (.int .i64 a0_7) := (blk_cell BK257.out 7).trans rfl; have hcz15_8 : w14.cell? ⟨gb257, 8, none⟩ = some (.int .i64 a0_8) := (blk_cell BK257.out 8).trans rfl; have hcz15_9 : w14.cell? ⟨gb257, 9, none⟩ = some (.int .i64 a0_9) := (blk_cell BK257.out 9).trans rfl; have hcz15_10 : w14.cell? ⟨gb257, 10, none⟩ = some (.bool a0_10) := (blk_cell BK257.out 10).trans rfl; have hcz15_11 : w14.cell? ⟨gb257, 11, none⟩ = some (.string a0_11) := (blk_cell BK257.out 11).trans rfl; have hcz15_12 : w14.cell? ⟨gb257, 12, none⟩ = some (.int .i64 a0_12) := (blk_cell BK257.out 12).trans rfl; have hfz15_0 := fz_ BK257 0; have hfz15_1 := fz_ BK257 1; have hfz15_2 := fz_ BK257 2; have hfz15_3 := fz_ BK257 3; have hfz15_4 := fz_ BK257 4; have hfz15_5 := fz_ BK257 5; have hfz15_6 := fz_ BK257 6; have hfz15_7 := fz_ BK257 7; have hfz15_8 := fz_ BK257 8; have hfz15_9 := fz_ BK257 9; have hfz15_10 := fz_ BK257 10; have hfz15_11 := fz_ BK257 11; have hfz15_12 := fz_ BK257 12; have hcz16_0 := cz0_ BK258; have hcz16_1 := cz1_ BK258; have hcz16_2 := cz2_ BK258; have hcz16_3 := cz3_ BK258; have hcz16_4 : w14.cell? ⟨gb258, 4, none⟩ = some (.int .i64 a1_4) := (blk_cell BK258.out 4).trans rfl; have hcz16_5 : w14.cell? ⟨gb258, 5, none⟩ = some (.bool a1_5) := (blk_cell BK258.out 5).trans rfl; have hcz16_6 : w14.cell? ⟨gb258, 6, none⟩ = some (.int .i64 a1_6) := (blk_cell BK258.out 6).trans rfl; have hcz16_7 : w14.cell? ⟨gb258, 7, none⟩ = some (.int .i64 a1_7) := (blk_cell BK258.out 7).trans rfl; have hcz16_8 : w14.cell? ⟨gb258, 8, none⟩ = some (.int .i64 a1_8) := (blk_cell BK258.out 8).trans rfl; have hcz16_9 : w14.cell? ⟨gb258, 9, none⟩ = some (.int .i64 a1_9) := (blk_cell BK258.out 9).trans rfl; have hcz16_10 : w14.cell? ⟨gb258, 10, none⟩ = some (.bool a1_10) := (blk_cell BK258.out 10).trans rfl; have hcz16_11 : w14.cell? ⟨gb258, 11, none⟩ = some (.string a1_11) := (blk_cell BK258.out 11).trans rfl; have hcz16_12 : w14.cell? ⟨gb258, 12, none⟩ = some (.int .i64 a1_12) := (blk_cell BK258.out 12).trans rfl; have hfz16_0 := fz_ BK258 0; have hfz16_1 := fz_ BK258 1; have hfz16_2 := fz_ BK258 2; have hfz16_3 := fz_ BK258 3; have hfz16_4 := fz_ BK258 4; have hfz16_5 := fz_ BK258 5; have hfz16_6 := fz_ BK258 6; have hfz16_7 := fz_ BK258 7; have hfz16_8 := fz_ BK258 8; have hfz16_9 := fz_ BK258 9; have hfz16_10 := fz_ BK258 10; have hfz16_11 := fz_ BK258 11; have hfz16_12 := fz_ BK258 12) | ((with_reducible refine gate_callee (f := 23) rfl ?_); refine goesL_ (some 16) rfl rfl Try.func23 (by kernel_rfl) rfl #[.agg #[.int .i64 a0_0, .int .i64 a0_1, .int .i64 a0_2, .int .i64 a0_3, .int .i64 a0_4, .bool a0_5, .int .i64 a0_6, .int .i64 a0_7, .int .i64 a0_8, .int .i64 a0_9, .bool a0_10, .string a0_11, .int .i64 a0_12], .agg #[.int .i64 a1_0, .int .i64 a1_1, .int .i64 a1_2, .int .i64 a1_3, .int .i64 a1_4, .bool a1_5, .int .i64 a1_6, .int .i64 a1_7, .int .i64 a1_8, .int .i64 a1_9, .bool a1_10, .string a1_11, .int .i64 a1_12]] rfl args_ ?_; (with_reducible refine (spec_feHand.calls k a0_0 a0_1 a0_2 a0_3 a0_4 a0_5 a0_6 a0_7 a0_8 a0_9 a0_10 a0_11 a0_12 a1_0 a1_1 a1_2 a1_3 a1_4 a1_5 a1_6 a1_7 a1_8 a1_9 a1_10 a1_11 a1_12 t261 _ A7.out).mono ?_); rintro e w17 ⟨rfl, hb⟩; refine ⟨_, rfl, ?_⟩; have n0_ := Aside0.mk (lb_ BK257 hb); have n1_ := Aside0.mk (lb_ BK258 hb); have n2_ := Aside0.mk (below_step (bb2_ HB GE257 GE258) hb); clear BK257; clear BK258; clear HB; have BK257 := n0_; have BK258 := n1_; have HB := n2_; clear n0_ n1_ n2_; (try clear hb); (try clear hb2); (try clear hk); (try clear hi)))
   go_ret2
   exact ⟨by first | rfl | (simp [errW_none, errW_some] <;> rfl) | (simp [*, errW_none, errW_some] <;> rfl), bb2_ HB GE257 GE258⟩
  ·replace c6 := Bool.eq_false_iff.mpr c6
   subst c6
   have H1 : (some (0, false)) = some (r1, r2) := by rw [if_neg (show ¬ (false = true) by decide)] at H; exact H
   clear H
   have H := H1
   clear H1
   simp only [Option.some.injEq, Prod.mk.injEq] at H
   obtain ⟨rfl, rfl⟩ := H
   go_enter Try.func13, Try.ntmps13
   go_wp2_with (first | ((with_reducible refine gate_dst (N := 2) rfl ?_); refine box_event ?hg (N := 2) ?hd (cs := #[.int .i64 a0_0, .int .i64 a0_1, .int .i64 a0_2, .int .i64 a0_3, .int .i64 a0_4, .bool a0_5, .int .i64 a0_6, .int .i64 a0_7, .int .i64 a0_8, .int .i64 a0_9, .bool a0_10, .string a0_11, .int .i64 a0_12]) (t := 47) ?hr ?_; (case hd => rfl); (case hg => rfl); (case hr => first | (go_simp; done) | (go_simp; rfl)); intro gb257 hg w18 hbox hb; have n0_ := Aside0.mk (bt_ HB hb); have n1_ := Aside0.mk (hbox); have n2_ := gz_ hg HB; have n3_ := gz_ hg HB; clear HB; have HB := n0_; have BK257 := n1_; have GW257 := n2_; have GE257 := n3_; clear n0_ n1_ n2_ n3_; clear hb hbox hg) | ((with_reducible refine gate_dst (N := 3) rfl ?_); refine box_event ?hg (N := 3) ?hd (cs := #[.int .i64 a1_0, .int .i64 a1_1, .int .i64 a1_2, .int .i64 a1_3, .int .i64 a1_4, .bool a1_5, .int .i64 a1_6, .int .i64 a1_7, .int .i64 a1_8, .int .i64 a1_9, .bool a1_10, .string a1_11, .int .i64 a1_12]) (t := 47) ?hr ?_; (case hd => rfl); (case hg => rfl); (case hr => first | (go_simp; done) | (go_simp; rfl)); intro gb258 hg w19 hbox hb; have n0_ := Aside0.mk (lb_ BK257 hb); have n1_ := Aside0.mk (below_step (bb1_ HB GE257) hb); have n2_ := Aside0.mk (hbox); have n3_ := gy_ hg (bb1_ HB GE257); have n4_ := gy_ hg (bb1_ HB GE257); have n5_ := nl_ hg BK257; have n6_ := ng_ hg BK257; clear BK257; clear HB; have BK257 := n0_; have HB := n1_; have BK258 := n2_; have GW258 := n3_; have GE258 := n4_; have NB257_258 := n5_; have NB258_257 := n6_; clear n0_ n1_ n2_ n3_ n4_ n5_ n6_; clear hb hbox hg; have hnb20 := NB257_258.out; have hnc20 := NB258_257.out; have hcz21_0 := cz0_ BK257; have hcz21_1 := cz1_ BK257; have hcz21_2 := cz2_ BK257; have hcz21_3 := cz3_ BK257; have hcz21_4 : w19.cell? ⟨gb257, 4, none⟩ = some (.int .i64 a0_4) := (blk_cell BK257.out 4).trans rfl; have hcz21_5 : w19.cell? ⟨gb257, 5, none⟩ = some (.bool a0_5) := (blk_cell BK257.out 5).trans rfl; have hcz21_6 : w19.cell? ⟨gb257, 6, none⟩ = some (.int .i64 a0_6) := (blk_cell BK257.out 6).trans rfl; have hcz21_7 : w19.cell? ⟨gb257, 7, none⟩ = some (.int .i64 a0_7) := (blk_cell BK257.out 7).trans rfl; have hcz21_8 : w19.cell? ⟨gb257, 8, none⟩ = some (.int .i64 a0_8) := (blk_cell BK257.out 8).trans rfl; have hcz21_9 : w19.cell? ⟨gb257, 9, none⟩ = some (.int .i64 a0_9) := (blk_cell BK257.out 9).trans rfl; have hcz21_10 : w19.cell? ⟨gb257, 10, none⟩ = some (.bool a0_10) := (blk_cell BK257.out 10).trans rfl; have hcz21_11 : w19.cell? ⟨gb257, 11, none⟩ = some (.string a0_11) := (blk_cell BK257.out 11).trans rfl; have hcz21_12 : w19.cell? ⟨gb257, 12, none⟩ = some (.int .i64 a0_12) := (blk_cell BK257.out 12).trans rfl; have hfz21_0 := fz_ BK257 0; have hfz21_1 := fz_ BK257 1; have hfz21_2 := fz_ BK257 2; have hfz21_3 := fz_ BK257 3; have hfz21_4 := fz_ BK257 4; have hfz21_5 := fz_ BK257 5; have hfz21_6 := fz_ BK257 6; have hfz21_7 := fz_ BK257 7; have hfz21_8 := fz_ BK257 8; have hfz21_9 := fz_ BK257 9; have hfz21_10 := fz_ BK257 10; have hfz21_11 := fz_ BK257 11; have hfz21_12 := fz_ BK257 12) | ((with_reducible refine gate_callee (f := 22) rfl ?_); refine goesL_ (some 7) rfl rfl Try.func22 (by kernel_rfl) rfl #[.agg #[.int .i64 a0_0, .int .i64 a0_1, .int .i64 a0_2, .int .i64 a0_3, .int .i64 a0_4, .bool a0_5, .int .i64 a0_6, .int .i64 a0_7, .int .i64 a0_8, .int .i64 a0_9, .bool a0_10, .string a0_11, .int .i64 a0_12]] rfl args_ ?_; (with_reducible refine (spec_siHand.calls k a0_0 a0_1 a0_2 a0_3 a0_4 a0_5 a0_6 a0_7 a0_8 a0_9 a0_10 a0_11 a0_12 true _ A3.out).mono ?_); rintro e w22 ⟨rfl, hb⟩; refine ⟨_, rfl, ?_⟩; have n0_ := Aside0.mk (lb_ BK257 hb); have n1_ := Aside0.mk (lb_ BK258 hb); have n2_ := Aside0.mk (below_step (bb2_ HB GE257 GE258) hb); clear BK257; clear BK258; clear HB; have BK257 := n0_; have BK258 := n1_; have HB := n2_; clear n0_ n1_ n2_; (try clear hb); (try clear hb2); (try clear hk); (try clear hi); have hcz23_0 := cz0_ BK258; have hcz23_1 := cz1_ BK258; have hcz23_2 := cz2_ BK258; have hcz23_3 := cz3_ BK258; have hcz23_4 : w22.cell? ⟨gb258, 4, none⟩ = some (.int .i64 a1_4) := (blk_cell BK258.out 4).trans rfl; have hcz23_5 : w22.cell? ⟨gb258, 5, none⟩ = some (.bool a1_5) := (blk_cell BK258.out 5).trans rfl; have hcz23_6 : w22.cell? ⟨gb258, 6, none⟩ = some (.int .i64 a1_6) := (blk_cell BK258.out 6).trans rfl; have hcz23_7 : w22.cell? ⟨gb258, 7, none⟩ = some (.int .i64 a1_7) := (blk_cell BK258.out 7).trans rfl; have hcz23_8 : w22.cell? ⟨gb258, 8, none⟩ = some (.int .i64 a1_8) := (blk_cell BK258.out 8).trans rfl; have hcz23_9 : w22.cell? ⟨gb258, 9, none⟩ = some (.int .i64 a1_9) := (blk_cell BK258.out 9).trans rfl; have hcz23_10 : w22.cell? ⟨gb258, 10, none⟩ = some (.bool a1_10) := (blk_cell BK258.out 10).trans rfl; have hcz23_11 : w22.cell? ⟨gb258, 11, none⟩ = some (.string a1_11) := (blk_cell BK258.out 11).trans rfl; have hcz23_12 : w22.cell? ⟨gb258, 12, none⟩ = some (.int .i64 a1_12) := (blk_cell BK258.out 12).trans rfl; have hfz23_0 := fz_ BK258 0; have hfz23_1 := fz_ BK258 1; have hfz23_2 := fz_ BK258 2; have hfz23_3 := fz_ BK258 3; have hfz23_4 := fz_ BK258 4; have hfz23_5 := fz_ BK258 5; have hfz23_6 := fz_ BK258 6; have hfz23_7 := fz_ BK258 7; have hfz23_8 := fz_ BK258 8; have hfz23_9 := fz_ BK258 9; have hfz23_10 := fz_ BK258 10; have hfz23_11 := fz_ BK258 11; have hfz23_12 := fz_ BK258 12) | (go_at_call 22; (with_reducible refine (spec_siHand.calls k a1_0 a1_1 a1_2 a1_3 a1_4 a1_5 a1_6 a1_7 a1_8 a1_9 a1_10 a1_11 a1_12 false _ A5.out).mono ?_); rintro e w24 ⟨rfl, hb⟩; have n0_ := Aside0.mk (lb_ BK257 hb); have n1_ := Aside0.mk (lb_ BK258 hb); have n2_ := Aside0.mk (below_step (bb2_ HB GE257 GE258) hb); clear BK257; clear BK258; clear HB; have BK257 := n0_; have BK258 := n1_; have HB := n2_; clear n0_ n1_ n2_; (try clear hb); (try clear hb2); (try clear hk); (try clear hi)))
   go_ret2
   exact ⟨by first | rfl | (simp [errW_none, errW_some] <;> rfl) | (simp [*, errW_none, errW_some] <;> rfl), bb2_ HB GE257 GE258⟩
 ·replace c4 := Bool.eq_false_iff.mpr c4
  subst c4
  have H1 : (some (0, false)) = some (r1, r2) := by rw [if_neg (show ¬ (false = true) by decide)] at H; exact H
  clear H
  have H := H1
  clear H1
  simp only [Option.some.injEq, Prod.mk.injEq] at H
  obtain ⟨rfl, rfl⟩ := H
  go_enter Try.func13, Try.ntmps13
  go_wp2_with (first | ((with_reducible refine gate_dst (N := 2) rfl ?_); refine box_event ?hg (N := 2) ?hd (cs := #[.int .i64 a0_0, .int .i64 a0_1, .int .i64 a0_2, .int .i64 a0_3, .int .i64 a0_4, .bool a0_5, .int .i64 a0_6, .int .i64 a0_7, .int .i64 a0_8, .int .i64 a0_9, .bool a0_10, .string a0_11, .int .i64 a0_12]) (t := 47) ?hr ?_; (case hd => rfl); (case hg => rfl); (case hr => first | (go_simp; done) | (go_simp; rfl)); intro gb257 hg w25 hbox hb; have n0_ := Aside0.mk (bt_ HB hb); have n1_ := Aside0.mk (hbox); have n2_ := gz_ hg HB; have n3_ := gz_ hg HB; clear HB; have HB := n0_; have BK257 := n1_; have GW257 := n2_; have GE257 := n3_; clear n0_ n1_ n2_ n3_; clear hb hbox hg) | ((with_reducible refine gate_dst (N := 3) rfl ?_); refine box_event ?hg (N := 3) ?hd (cs := #[.int .i64 a1_0, .int .i64 a1_1, .int .i64 a1_2, .int .i64 a1_3, .int .i64 a1_4, .bool a1_5, .int .i64 a1_6, .int .i64 a1_7, .int .i64 a1_8, .int .i64 a1_9, .bool a1_10, .string a1_11, .int .i64 a1_12]) (t := 47) ?hr ?_; (case hd => rfl); (case hg => rfl); (case hr => first | (go_simp; done) | (go_simp; rfl)); intro gb258 hg w26 hbox hb; have n0_ := Aside0.mk (lb_ BK257 hb); have n1_ := Aside0.mk (below_step (bb1_ HB GE257) hb); have n2_ := Aside0.mk (hbox); have n3_ := gy_ hg (bb1_ HB GE257); have n4_ := gy_ hg (bb1_ HB GE257); have n5_ := nl_ hg BK257; have n6_ := ng_ hg BK257; clear BK257; clear HB; have BK257 := n0_; have HB := n1_; have BK258 := n2_; have GW258 := n3_; have GE258 := n4_; have NB257_258 := n5_; have NB258_257 := n6_; clear n0_ n1_ n2_ n3_ n4_ n5_ n6_; clear hb hbox hg; have hnb27 := NB257_258.out; have hnc27 := NB258_257.out; have hcz28_0 := cz0_ BK257; have hcz28_1 := cz1_ BK257; have hcz28_2 := cz2_ BK257; have hcz28_3 := cz3_ BK257; have hcz28_4 : w26.cell? ⟨gb257, 4, none⟩ = some (.int .i64 a0_4) := (blk_cell BK257.out 4).trans rfl; have hcz28_5 : w26.cell? ⟨gb257, 5, none⟩ = some (.bool a0_5) := (blk_cell BK257.out 5).trans rfl; have hcz28_6 : w26.cell? ⟨gb257, 6, none⟩ = some (.int .i64 a0_6) := (blk_cell BK257.out 6).trans rfl; have hcz28_7 : w26.cell? ⟨gb257, 7, none⟩ = some (.int .i64 a0_7) := (blk_cell BK257.out 7).trans rfl; have hcz28_8 : w26.cell? ⟨gb257, 8, none⟩ = some (.int .i64 a0_8) := (blk_cell BK257.out 8).trans rfl; have hcz28_9 : w26.cell? ⟨gb257, 9, none⟩ = some (.int .i64 a0_9) := (blk_cell BK257.out 9).trans rfl; have hcz28_10 : w26.cell? ⟨gb257, 10, none⟩ = some (.bool a0_10) := (blk_cell BK257.out 10).trans rfl; have hcz28_11 : w26.cell? ⟨gb257, 11, none⟩ = some (.string a0_11) := (blk_cell BK257.out 11).trans rfl; have hcz28_12 : w26.cell? ⟨gb257, 12, none⟩ = some (.int .i64 a0_12) := (blk_cell BK257.out 12).trans rfl; have hfz28_0 := fz_ BK257 0; have hfz28_1 := fz_ BK257 1; have hfz28_2 := fz_ BK257 2; have hfz28_3 := fz_ BK257 3; have hfz28_4 := fz_ BK257 4; have hfz28_5 := fz_ BK257 5; have hfz28_6 := fz_ BK257 6; have hfz28_7 := fz_ BK257 7; have hfz28_8 := fz_ BK257 8; have hfz28_9 := fz_ BK257 9; have hfz28_10 := fz_ BK257 10; have hfz28_11 := fz_ BK257 11; have hfz28_12 := fz_ BK257 12) | ((with_reducible refine gate_callee (f := 22) rfl ?_); refine goesL_ (some 7) rfl rfl Try.func22 (by kernel_rfl) rfl #[.agg #[.int .i64 a0_0, .int .i64 a0_1, .int .i64 a0_2, .int .i64 a0_3, .int .i64 a0_4, .bool a0_5, .int .i64 a0_6, .int .i64 a0_7, .int .i64 a0_8, .int .i64 a0_9, .bool a0_10, .string a0_11, .int .i64 a0_12]] rfl args_ ?_; (with_reducible refine (spec_siHand.calls k a0_0 a0_1 a0_2 a0_3 a0_4 a0_5 a0_6 a0_7 a0_8 a0_9 a0_10 a0_11 a0_12 false _ A3.out).mono ?_); rintro e w29 ⟨rfl, hb⟩; refine ⟨_, rfl, ?_⟩; have n0_ := Aside0.mk (lb_ BK257 hb); have n1_ := Aside0.mk (lb_ BK258 hb); have n2_ := Aside0.mk (below_step (bb2_ HB GE257 GE258) hb); clear BK257; clear BK258; clear HB; have BK257 := n0_; have BK258 := n1_; have HB := n2_; clear n0_ n1_ n2_; (try clear hb); (try clear hb2); (try clear hk); (try clear hi)))
  go_ret2
  exact ⟨by first | rfl | (simp [errW_none, errW_some] <;> rfl) | (simp [*, errW_none, errW_some] <;> rfl), bb2_ HB GE257 GE258⟩

/-! ### laws_toShape: function 24 -/
def laws_toShape.f (a0_0 : Int) (a0_1 : Int) (a0_2 : Int) (a0_3 : Int) (a0_4 : Int) (a0_5 : Bool) : Option (Int × Int × Int × Int × Int × Bool) := some (a0_0, a0_1, a0_2, a0_3, a0_4, a0_5)
set_option maxHeartbeats 8000000 in
set_option maxRecDepth 100000 in
theorem laws_toShape.calls (a0_0 : Int) (a0_1 : Int) (a0_2 : Int) (a0_3 : Int) (a0_4 : Int) (a0_5 : Bool) (r1 : Int) (r2 : Int) (r3 : Int) (r4 : Int) (r5 : Int) (r6 : Bool) (w : World) (h : laws_toShape.f a0_0 a0_1 a0_2 a0_3 a0_4 a0_5 = some (r1, r2, r3, r4, r5, r6)) :
  Calls Try.prog 24 #[.agg #[.int .i64 a0_0, .int .i64 a0_1, .int .i64 a0_2, .int .i64 a0_3, .int .i64 a0_4, .bool a0_5]] w fun e w' => e = .returned (.agg #[.int .i64 r1, .int .i64 r2, .int .i64 r3, .int .i64 r4, .int .i64 r5, .bool r6]) ∧ Below w.heap.size w w' := by
 have hu34 := Try.underlying34
 have hu43 := Try.underlying43
 have HB := Aside0.mk (Below.refl w.heap.size w)
 have H : (some (a0_0, a0_1, a0_2, a0_3, a0_4, a0_5)) = some (r1, r2, r3, r4, r5, r6) := h
 clear h
 simp only [Option.some.injEq, Prod.mk.injEq] at H
 obtain ⟨rfl, rfl, rfl, rfl, rfl, rfl⟩ := H
 go_enter Try.func24, Try.ntmps24
 go_wp2_with (first | ((with_reducible refine gate_dst (N := 1) rfl ?_); refine box_event ?hg (N := 1) ?hd (cs := #[.int .i64 a0_0, .int .i64 a0_1, .int .i64 a0_2, .int .i64 a0_3, .int .i64 a0_4, .bool a0_5]) (t := 34) ?hr ?_; (case hd => rfl); (case hg => rfl); (case hr => first | (go_simp; done) | (go_simp; rfl)); intro gb262 hg w2 hbox hb; have n0_ := Aside0.mk (bt_ HB hb); have n1_ := Aside0.mk (hbox); have n2_ := gz_ hg HB; have n3_ := gz_ hg HB; clear HB; have HB := n0_; have BK262 := n1_; have GW262 := n2_; have GE262 := n3_; clear n0_ n1_ n2_ n3_; clear hb hbox hg) | ((with_reducible refine gate_dst (N := 2) rfl ?_); refine box_event ?hg (N := 2) ?hd (cs := #[.int .i64 0, .int .i64 0, .int .i64 0, .int .i64 0, .int .i64 0, .bool false]) (t := 43) ?hr ?_; (case hd => rfl); (case hg => rfl); (case hr => first | (go_simp; done) | (go_simp; rfl)); intro gb263 hg w3 hbox hb; have n0_ := Aside0.mk (lb_ BK262 hb); have n1_ := Aside0.mk (below_step (bb1_ HB GE262) hb); have n2_ := Aside0.mk (hbox); have n3_ := gy_ hg (bb1_ HB GE262); have n4_ := gy_ hg (bb1_ HB GE262); have n5_ := nl_ hg BK262; have n6_ := ng_ hg BK262; clear BK262; clear HB; have BK262 := n0_; have HB := n1_; have BK263 := n2_; have GW263 := n3_; have GE263 := n4_; have NB262_263 := n5_; have NB263_262 := n6_; clear n0_ n1_ n2_ n3_ n4_ n5_ n6_; clear hb hbox hg) | ((with_reducible refine gate_dst (N := 3) rfl ?_); refine box_event ?hg (N := 3) ?hd (cs := #[.int .i64 0, .int .i64 0, .int .i64 0, .int .i64 0, .int .i64 0, .bool false]) (t := 43) ?hr ?_; (case hd => rfl); (case hg => rfl); (case hr => first | (go_simp; done) | (go_simp; rfl)); intro gb264 hg w4 hbox hb; have n0_ := Aside0.mk (lb_ BK262 hb); have n1_ := Aside0.mk (lb_ BK263 hb); have n2_ := Aside0.mk (below_step (bb2_ HB GE262 GE263) hb); have n3_ := Aside0.mk (hbox); have n4_ := gy_ hg (bb2_ HB GE262 GE263); have n5_ := gy_ hg (bb2_ HB GE262 GE263); have n6_ := nl_ hg BK262; have n7_ := ng_ hg BK262; have n8_ := nl_ hg BK263; have n9_ := ng_ hg BK263; clear BK262; clear BK263; clear HB; have BK262 := n0_; have BK263 := n1_; have HB := n2_; have BK264 := n3_; have GW264 := n4_; have GE264 := n5_; have NB262_264 := n6_; have NB264_262 := n7_; have NB263_264 := n8_; have NB264_263 := n9_; clear n0_ n1_ n2_ n3_ n4_ n5_ n6_ n7_ n8_ n9_; clear hb hbox hg; have hnb5 := NB262_263.out; have hnc5 := NB263_262.out; have hnb6 := NB262_264.out; have hnc6 := NB264_262.out; have hcz7_0 := cz0_ BK262; have hcz7_1 := cz1_ BK262; have hcz7_2 := cz2_ BK262; have hcz7_3 := cz3_ BK262; have hcz7_4 : w4.cell? ⟨gb262, 4, none⟩ = some (.int .i64 a0_4) := (blk_cell BK262.out 4).trans rfl; have hcz7_5 : w4.cell? ⟨gb262, 5, none⟩ = some (.bool a0_5) := (blk_cell BK262.out 5).trans rfl; have hfz7_0 := fz_ BK262 0; have hfz7_1 := fz_ BK262 1; have hfz7_2 := fz_ BK262 2; have hfz7_3 := fz_ BK262 3; have hfz7_4 := fz_ BK262 4; have hfz7_5 := fz_ BK262 5; have hnb8 := NB264_263.out; have hnc8 := NB263_264.out; have hcz9_0 := cz0_ BK264; have hcz9_1 := cz1_ BK264; have hcz9_2 := cz2_ BK264; have hcz9_3 := cz3_ BK264; have hcz9_4 : w4.cell? ⟨gb264, 4, none⟩ = some (.int .i64 0) := (blk_cell BK264.out 4).trans rfl; have hcz9_5 : w4.cell? ⟨gb264, 5, none⟩ = some (.bool false) := (blk_cell BK264.out 5).trans rfl; have hfz9_0 := fz_ BK264 0; have hfz9_1 := fz_ BK264 1; have hfz9_2 := fz_ BK264 2; have hfz9_3 := fz_ BK264 3; have hfz9_4 := fz_ BK264 4; have hfz9_5 := fz_ BK264 5; have hcz10_0 := cz0_ BK263; have hcz10_1 := cz1_ BK263; have hcz10_2 := cz2_ BK263; have hcz10_3 := cz3_ BK263; have hcz10_4 : w4.cell? ⟨gb263, 4, none⟩ = some (.int .i64 0) := (blk_cell BK263.out 4).trans rfl; have hcz10_5 : w4.cell? ⟨gb263, 5, none⟩ = some (.bool false) := (blk_cell BK263.out 5).trans rfl; have hfz10_0 := fz_ BK263 0; have hfz10_1 := fz_ BK263 1; have hfz10_2 := fz_ BK263 2; have hfz10_3 := fz_ BK263 3; have hfz10_4 := fz_ BK263 4; have hfz10_5 := fz_ BK263 5))
 refine bodyPost_ret (results_cell_row rfl _ _ gb263 43 #[.int .i64 a0_0, .int .i64 a0_1, .int .i64 a0_2, .int .i64 a0_3, .int .i64 a0_4, .bool a0_5] (0, 0) _ rfl (by (with_reducible repeat (first | apply lN_ | apply lD_ | apply lA_)); refine blk_put (cs := #[.int .i64 a0_0, .int .i64 a0_1, .int .i64 a0_2, .int .i64 a0_3, .int .i64 a0_4, .bool false]) ?_ 5 _ rfl; (with_reducible repeat (first | apply lN_ | apply lD_ | apply lA_)); refine blk_put (cs := #[.int .i64 a0_0, .int .i64 a0_1, .int .i64 a0_2, .int .i64 a0_3, .int .i64 0, .bool false]) ?_ 4 _ rfl; (with_reducible repeat (first | apply lN_ | apply lD_ | apply lA_)); refine blk_put (cs := #[.int .i64 a0_0, .int .i64 a0_1, .int .i64 a0_2, .int .i64 0, .int .i64 0, .bool false]) ?_ 3 _ rfl; (with_reducible repeat (first | apply lN_ | apply lD_ | apply lA_)); refine blk_put (cs := #[.int .i64 a0_0, .int .i64 a0_1, .int .i64 0, .int .i64 0, .int .i64 0, .bool false]) ?_ 2 _ rfl; (with_reducible repeat (first | apply lN_ | apply lD_ | apply lA_)); refine blk_put (cs := #[.int .i64 a0_0, .int .i64 0, .int .i64 0, .int .i64 0, .int .i64 0, .bool false]) ?_ 1 _ rfl; (with_reducible repeat (first | apply lN_ | apply lD_ | apply lA_)); refine blk_put (cs := #[.int .i64 0, .int .i64 0, .int .i64 0, .int .i64 0, .int .i64 0, .bool false]) ?_ 0 _ rfl; (with_reducible repeat (first | apply lN_ | apply lD_ | apply lA_)); refine blk_far ?_ NB263_264.out _; (with_reducible repeat (first | apply lN_ | apply lD_ | apply lA_)); refine blk_far ?_ NB263_264.out _; (with_reducible repeat (first | apply lN_ | apply lD_ | apply lA_)); refine blk_far ?_ NB263_264.out _; (with_reducible repeat (first | apply lN_ | apply lD_ | apply lA_)); refine blk_far ?_ NB263_264.out _; (with_reducible repeat (first | apply lN_ | apply lD_ | apply lA_)); refine blk_far ?_ NB263_264.out _; (with_reducible repeat (first | apply lN_ | apply lD_ | apply lA_)); refine blk_far ?_ NB263_264.out _; (with_reducible repeat (first | apply lN_ | apply lD_ | apply lA_)); exact BK263.out) Try.underlying43 rfl (by kernel_rfl)) rfl ?_
 exact ⟨by first | rfl | (simp [errW_none, errW_some] <;> rfl) | (simp [*, errW_none, errW_some] <;> rfl), bb3_ HB GE262 GE263 GE264⟩

/-! ### laws_toOrient: function 25 -/
def laws_toOrient.f (a0_0 : Int) (a0_1 : Int) : Option (Int × Int) := some (a0_0, a0_1)
set_option maxHeartbeats 8000000 in
set_option maxRecDepth 100000 in
theorem laws_toOrient.calls (a0_0 : Int) (a0_1 : Int) (r1 : Int) (r2 : Int) (w : World) (h : laws_toOrient.f a0_0 a0_1 = some (r1, r2)) :
  Calls Try.prog 25 #[.agg #[.int .i64 a0_0, .int .i64 a0_1]] w fun e w' => e = .returned (.agg #[.int .i64 r1, .int .i64 r2]) ∧ Below w.heap.size w w' := by
 have hu36 := Try.underlying36
 have hu44 := Try.underlying44
 have HB := Aside0.mk (Below.refl w.heap.size w)
 have H : (some (a0_0, a0_1)) = some (r1, r2) := h
 clear h
 simp only [Option.some.injEq, Prod.mk.injEq] at H
 obtain ⟨rfl, rfl⟩ := H
 go_enter Try.func25, Try.ntmps25
 go_wp2_with (first | ((with_reducible refine gate_dst (N := 1) rfl ?_); refine box_event ?hg (N := 1) ?hd (cs := #[.int .i64 a0_0, .int .i64 a0_1]) (t := 36) ?hr ?_; (case hd => rfl); (case hg => rfl); (case hr => first | (go_simp; done) | (go_simp; rfl)); intro gb265 hg w2 hbox hb; have n0_ := Aside0.mk (bt_ HB hb); have n1_ := Aside0.mk (hbox); have n2_ := gz_ hg HB; have n3_ := gz_ hg HB; clear HB; have HB := n0_; have BK265 := n1_; have GW265 := n2_; have GE265 := n3_; clear n0_ n1_ n2_ n3_; clear hb hbox hg) | ((with_reducible refine gate_dst (N := 2) rfl ?_); refine box_event ?hg (N := 2) ?hd (cs := #[.int .i64 0, .int .i64 0]) (t := 44) ?hr ?_; (case hd => rfl); (case hg => rfl); (case hr => first | (go_simp; done) | (go_simp; rfl)); intro gb266 hg w3 hbox hb; have n0_ := Aside0.mk (lb_ BK265 hb); have n1_ := Aside0.mk (below_step (bb1_ HB GE265) hb); have n2_ := Aside0.mk (hbox); have n3_ := gy_ hg (bb1_ HB GE265); have n4_ := gy_ hg (bb1_ HB GE265); have n5_ := nl_ hg BK265; have n6_ := ng_ hg BK265; clear BK265; clear HB; have BK265 := n0_; have HB := n1_; have BK266 := n2_; have GW266 := n3_; have GE266 := n4_; have NB265_266 := n5_; have NB266_265 := n6_; clear n0_ n1_ n2_ n3_ n4_ n5_ n6_; clear hb hbox hg) | ((with_reducible refine gate_dst (N := 3) rfl ?_); refine box_event ?hg (N := 3) ?hd (cs := #[.int .i64 0, .int .i64 0]) (t := 44) ?hr ?_; (case hd => rfl); (case hg => rfl); (case hr => first | (go_simp; done) | (go_simp; rfl)); intro gb267 hg w4 hbox hb; have n0_ := Aside0.mk (lb_ BK265 hb); have n1_ := Aside0.mk (lb_ BK266 hb); have n2_ := Aside0.mk (below_step (bb2_ HB GE265 GE266) hb); have n3_ := Aside0.mk (hbox); have n4_ := gy_ hg (bb2_ HB GE265 GE266); have n5_ := gy_ hg (bb2_ HB GE265 GE266); have n6_ := nl_ hg BK265; have n7_ := ng_ hg BK265; have n8_ := nl_ hg BK266; have n9_ := ng_ hg BK266; clear BK265; clear BK266; clear HB; have BK265 := n0_; have BK266 := n1_; have HB := n2_; have BK267 := n3_; have GW267 := n4_; have GE267 := n5_; have NB265_267 := n6_; have NB267_265 := n7_; have NB266_267 := n8_; have NB267_266 := n9_; clear n0_ n1_ n2_ n3_ n4_ n5_ n6_ n7_ n8_ n9_; clear hb hbox hg; have hnb5 := NB265_266.out; have hnc5 := NB266_265.out; have hnb6 := NB265_267.out; have hnc6 := NB267_265.out; have hcz7_0 := cz0_ BK265; have hcz7_1 := cz1_ BK265; have hfz7_0 := fz_ BK265 0; have hfz7_1 := fz_ BK265 1; have hnb8 := NB267_266.out; have hnc8 := NB266_267.out; have hcz9_0 := cz0_ BK267; have hcz9_1 := cz1_ BK267; have hfz9_0 := fz_ BK267 0; have hfz9_1 := fz_ BK267 1; have hcz10_0 := cz0_ BK266; have hcz10_1 := cz1_ BK266; have hfz10_0 := fz_ BK266 0; have hfz10_1 := fz_ BK266 1))
 refine bodyPost_ret (results_cell_row rfl _ _ gb266 44 #[.int .i64 a0_0, .int .i64 a0_1] (0, 0) _ rfl (by (with_reducible repeat (first | apply lN_ | apply lD_ | apply lA_)); refine blk_put (cs := #[.int .i64 a0_0, .int .i64 0]) ?_ 1 _ rfl; (with_reducible repeat (first | apply lN_ | apply lD_ | apply lA_)); refine blk_put (cs := #[.int .i64 0, .int .i64 0]) ?_ 0 _ rfl; (with_reducible repeat (first | apply lN_ | apply lD_ | apply lA_)); refine blk_far ?_ NB266_267.out _; (with_reducible repeat (first | apply lN_ | apply lD_ | apply lA_)); refine blk_far ?_ NB266_267.out _; (with_reducible repeat (first | apply lN_ | apply lD_ | apply lA_)); exact BK266.out) Try.underlying44 rfl (by kernel_rfl)) rfl ?_
 exact ⟨by first | rfl | (simp [errW_none, errW_some] <;> rfl) | (simp [*, errW_none, errW_some] <;> rfl), bb3_ HB GE265 GE266 GE267⟩

/-! ### laws_toPlace: function 26 -/
def laws_toPlace.f (a0_0 : Int) (a0_1 : Int) (a0_2 : Bool) : Option (Int × Int × Bool) := some (a0_0, a0_1, a0_2)
set_option maxHeartbeats 8000000 in
set_option maxRecDepth 100000 in
theorem laws_toPlace.calls (a0_0 : Int) (a0_1 : Int) (a0_2 : Bool) (r1 : Int) (r2 : Int) (r3 : Bool) (w : World) (h : laws_toPlace.f a0_0 a0_1 a0_2 = some (r1, r2, r3)) :
  Calls Try.prog 26 #[.agg #[.int .i64 a0_0, .int .i64 a0_1, .bool a0_2]] w fun e w' => e = .returned (.agg #[.int .i64 r1, .int .i64 r2, .bool r3]) ∧ Below w.heap.size w w' := by
 have hu38 := Try.underlying38
 have hu45 := Try.underlying45
 have HB := Aside0.mk (Below.refl w.heap.size w)
 have H : (some (a0_0, a0_1, a0_2)) = some (r1, r2, r3) := h
 clear h
 simp only [Option.some.injEq, Prod.mk.injEq] at H
 obtain ⟨rfl, rfl, rfl⟩ := H
 go_enter Try.func26, Try.ntmps26
 go_wp2_with (first | ((with_reducible refine gate_dst (N := 1) rfl ?_); refine box_event ?hg (N := 1) ?hd (cs := #[.int .i64 a0_0, .int .i64 a0_1, .bool a0_2]) (t := 38) ?hr ?_; (case hd => rfl); (case hg => rfl); (case hr => first | (go_simp; done) | (go_simp; rfl)); intro gb268 hg w2 hbox hb; have n0_ := Aside0.mk (bt_ HB hb); have n1_ := Aside0.mk (hbox); have n2_ := gz_ hg HB; have n3_ := gz_ hg HB; clear HB; have HB := n0_; have BK268 := n1_; have GW268 := n2_; have GE268 := n3_; clear n0_ n1_ n2_ n3_; clear hb hbox hg) | ((with_reducible refine gate_dst (N := 2) rfl ?_); refine box_event ?hg (N := 2) ?hd (cs := #[.int .i64 0, .int .i64 0, .bool false]) (t := 45) ?hr ?_; (case hd => rfl); (case hg => rfl); (case hr => first | (go_simp; done) | (go_simp; rfl)); intro gb269 hg w3 hbox hb; have n0_ := Aside0.mk (lb_ BK268 hb); have n1_ := Aside0.mk (below_step (bb1_ HB GE268) hb); have n2_ := Aside0.mk (hbox); have n3_ := gy_ hg (bb1_ HB GE268); have n4_ := gy_ hg (bb1_ HB GE268); have n5_ := nl_ hg BK268; have n6_ := ng_ hg BK268; clear BK268; clear HB; have BK268 := n0_; have HB := n1_; have BK269 := n2_; have GW269 := n3_; have GE269 := n4_; have NB268_269 := n5_; have NB269_268 := n6_; clear n0_ n1_ n2_ n3_ n4_ n5_ n6_; clear hb hbox hg) | ((with_reducible refine gate_dst (N := 3) rfl ?_); refine box_event ?hg (N := 3) ?hd (cs := #[.int .i64 0, .int .i64 0, .bool false]) (t := 45) ?hr ?_; (case hd => rfl); (case hg => rfl); (case hr => first | (go_simp; done) | (go_simp; rfl)); intro gb270 hg w4 hbox hb; have n0_ := Aside0.mk (lb_ BK268 hb); have n1_ := Aside0.mk (lb_ BK269 hb); have n2_ := Aside0.mk (below_step (bb2_ HB GE268 GE269) hb); have n3_ := Aside0.mk (hbox); have n4_ := gy_ hg (bb2_ HB GE268 GE269); have n5_ := gy_ hg (bb2_ HB GE268 GE269); have n6_ := nl_ hg BK268; have n7_ := ng_ hg BK268; have n8_ := nl_ hg BK269; have n9_ := ng_ hg BK269; clear BK268; clear BK269; clear HB; have BK268 := n0_; have BK269 := n1_; have HB := n2_; have BK270 := n3_; have GW270 := n4_; have GE270 := n5_; have NB268_270 := n6_; have NB270_268 := n7_; have NB269_270 := n8_; have NB270_269 := n9_; clear n0_ n1_ n2_ n3_ n4_ n5_ n6_ n7_ n8_ n9_; clear hb hbox hg; have hnb5 := NB268_269.out; have hnc5 := NB269_268.out; have hnb6 := NB268_270.out; have hnc6 := NB270_268.out; have hcz7_0 := cz0_ BK268; have hcz7_1 := cz1_ BK268; have hcz7_2 := cz2_ BK268; have hfz7_0 := fz_ BK268 0; have hfz7_1 := fz_ BK268 1; have hfz7_2 := fz_ BK268 2; have hnb8 := NB270_269.out; have hnc8 := NB269_270.out; have hcz9_0 := cz0_ BK270; have hcz9_1 := cz1_ BK270; have hcz9_2 := cz2_ BK270; have hfz9_0 := fz_ BK270 0; have hfz9_1 := fz_ BK270 1; have hfz9_2 := fz_ BK270 2; have hcz10_0 := cz0_ BK269; have hcz10_1 := cz1_ BK269; have hcz10_2 := cz2_ BK269; have hfz10_0 := fz_ BK269 0; have hfz10_1 := fz_ BK269 1; have hfz10_2 := fz_ BK269 2))
 refine bodyPost_ret (results_cell_row rfl _ _ gb269 45 #[.int .i64 a0_0, .int .i64 a0_1, .bool a0_2] (0, 0) _ rfl (by (with_reducible repeat (first | apply lN_ | apply lD_ | apply lA_)); refine blk_put (cs := #[.int .i64 a0_0, .int .i64 a0_1, .bool false]) ?_ 2 _ rfl; (with_reducible repeat (first | apply lN_ | apply lD_ | apply lA_)); refine blk_put (cs := #[.int .i64 a0_0, .int .i64 0, .bool false]) ?_ 1 _ rfl; (with_reducible repeat (first | apply lN_ | apply lD_ | apply lA_)); refine blk_put (cs := #[.int .i64 0, .int .i64 0, .bool false]) ?_ 0 _ rfl; (with_reducible repeat (first | apply lN_ | apply lD_ | apply lA_)); refine blk_far ?_ NB269_270.out _; (with_reducible repeat (first | apply lN_ | apply lD_ | apply lA_)); refine blk_far ?_ NB269_270.out _; (with_reducible repeat (first | apply lN_ | apply lD_ | apply lA_)); refine blk_far ?_ NB269_270.out _; (with_reducible repeat (first | apply lN_ | apply lD_ | apply lA_)); exact BK269.out) Try.underlying45 rfl (by kernel_rfl)) rfl ?_
 exact ⟨by first | rfl | (simp [errW_none, errW_some] <;> rfl) | (simp [*, errW_none, errW_some] <;> rfl), bb3_ HB GE268 GE269 GE270⟩

/-! ### laws_toHand: function 14 -/
def laws_toHand.f (a0_0 : Int) (a0_1 : Int) (a0_2 : Int) (a0_3 : Int) (a0_4 : Int) (a0_5 : Bool) (a0_6 : Int) (a0_7 : Int) (a0_8 : Int) (a0_9 : Int) (a0_10 : Bool) (a0_11 : ByteArray) (a0_12 : Int) : Option (Int × Int × Int × Int × Int × Bool × Int × Int × Int × Int × Bool × ByteArray × Int) := (laws_toShape.f a0_0 a0_1 a0_2 a0_3 a0_4 a0_5).bind fun bt274 => ((laws_toOrient.f a0_6 a0_7).bind fun bt280 => ((laws_toPlace.f a0_8 a0_9 a0_10).bind fun bt282 => ((laws_toMove.f a0_11 a0_12).bind fun bt285 => (some (bt274.1, bt274.2.1, bt274.2.2.1, bt274.2.2.2.1, bt274.2.2.2.2.1, bt274.2.2.2.2.2, bt280.1, bt280.2, bt282.1, bt282.2.1, bt282.2.2, bt285.1, bt285.2)))))
set_option maxHeartbeats 8000000 in
set_option maxRecDepth 100000 in
theorem laws_toHand.calls (a0_0 : Int) (a0_1 : Int) (a0_2 : Int) (a0_3 : Int) (a0_4 : Int) (a0_5 : Bool) (a0_6 : Int) (a0_7 : Int) (a0_8 : Int) (a0_9 : Int) (a0_10 : Bool) (a0_11 : ByteArray) (a0_12 : Int) (r1 : Int) (r2 : Int) (r3 : Int) (r4 : Int) (r5 : Int) (r6 : Bool) (r7 : Int) (r8 : Int) (r9 : Int) (r10 : Int) (r11 : Bool) (r12 : ByteArray) (r13 : Int) (w : World) (h : laws_toHand.f a0_0 a0_1 a0_2 a0_3 a0_4 a0_5 a0_6 a0_7 a0_8 a0_9 a0_10 a0_11 a0_12 = some (r1, r2, r3, r4, r5, r6, r7, r8, r9, r10, r11, r12, r13)) :
  Calls Try.prog 14 #[.agg #[.int .i64 a0_0, .int .i64 a0_1, .int .i64 a0_2, .int .i64 a0_3, .int .i64 a0_4, .bool a0_5, .int .i64 a0_6, .int .i64 a0_7, .int .i64 a0_8, .int .i64 a0_9, .bool a0_10, .string a0_11, .int .i64 a0_12]] w fun e w' => e = .returned (.agg #[.int .i64 r1, .int .i64 r2, .int .i64 r3, .int .i64 r4, .int .i64 r5, .bool r6, .int .i64 r7, .int .i64 r8, .int .i64 r9, .int .i64 r10, .bool r11, .string r12, .int .i64 r13]) ∧ Below w.heap.size w w' := by
 have hu40 := Try.underlying40
 have hu47 := Try.underlying47
 have hu34 := Try.underlying34
 have hu43 := Try.underlying43
 have hu36 := Try.underlying36
 have hu44 := Try.underlying44
 have hu38 := Try.underlying38
 have hu45 := Try.underlying45
 have hu23 := Try.underlying23
 have hu27 := Try.underlying27
 have HB := Aside0.mk (Below.refl w.heap.size w)
 have H : ((laws_toShape.f a0_0 a0_1 a0_2 a0_3 a0_4 a0_5).bind fun bt274 => ((laws_toOrient.f a0_6 a0_7).bind fun bt280 => ((laws_toPlace.f a0_8 a0_9 a0_10).bind fun bt282 => ((laws_toMove.f a0_11 a0_12).bind fun bt285 => (some (bt274.1, bt274.2.1, bt274.2.2.1, bt274.2.2.2.1, bt274.2.2.2.2.1, bt274.2.2.2.2.2, bt280.1, bt280.2, bt282.1, bt282.2.1, bt282.2.2, bt285.1, bt285.2)))))) = some (r1, r2, r3, r4, r5, r6, r7, r8, r9, r10, r11, r12, r13) := h
 clear h
 replace H := Option.bind_eq_some_iff.mp H
 obtain ⟨⟨t274, t275, t276, t277, t278, t279⟩, A20, H⟩ := H
 try dsimp only at H
 have A2 := Aside0.mk A20
 clear A20
 replace H := Option.bind_eq_some_iff.mp H
 obtain ⟨⟨t280, t281⟩, A30, H⟩ := H
 try dsimp only at H
 have A3 := Aside0.mk A30
 clear A30
 replace H := Option.bind_eq_some_iff.mp H
 obtain ⟨⟨t282, t283, t284⟩, A40, H⟩ := H
 try dsimp only at H
 have A4 := Aside0.mk A40
 clear A40
 replace H := Option.bind_eq_some_iff.mp H
 obtain ⟨⟨t285, t286⟩, A50, H⟩ := H
 try dsimp only at H
 have A5 := Aside0.mk A50
 clear A50
 simp only [Option.some.injEq, Prod.mk.injEq] at H
 obtain ⟨rfl, rfl, rfl, rfl, rfl, rfl, rfl, rfl, rfl, rfl, rfl, rfl, rfl⟩ := H
 go_enter Try.func14, Try.ntmps14
 go_wp2_with (first | ((with_reducible refine gate_dst (N := 1) rfl ?_); refine box_event ?hg (N := 1) ?hd (cs := #[.int .i64 a0_0, .int .i64 a0_1, .int .i64 a0_2, .int .i64 a0_3, .int .i64 a0_4, .bool a0_5, .int .i64 a0_6, .int .i64 a0_7, .int .i64 a0_8, .int .i64 a0_9, .bool a0_10, .string a0_11, .int .i64 a0_12]) (t := 40) ?hr ?_; (case hd => rfl); (case hg => rfl); (case hr => first | (go_simp; done) | (go_simp; rfl)); intro gb271 hg w6 hbox hb; have n0_ := Aside0.mk (bt_ HB hb); have n1_ := Aside0.mk (hbox); have n2_ := gz_ hg HB; have n3_ := gz_ hg HB; clear HB; have HB := n0_; have BK271 := n1_; have GW271 := n2_; have GE271 := n3_; clear n0_ n1_ n2_ n3_; clear hb hbox hg) | ((with_reducible refine gate_dst (N := 2) rfl ?_); refine box_event ?hg (N := 2) ?hd (cs := #[.int .i64 0, .int .i64 0, .int .i64 0, .int .i64 0, .int .i64 0, .bool false, .int .i64 0, .int .i64 0, .int .i64 0, .int .i64 0, .bool false, .string (⟨#[]⟩ : ByteArray), .int .i64 0]) (t := 47) ?hr ?_; (case hd => rfl); (case hg => rfl); (case hr => first | (go_simp; done) | (go_simp; rfl)); intro gb272 hg w7 hbox hb; have n0_ := Aside0.mk (lb_ BK271 hb); have n1_ := Aside0.mk (below_step (bb1_ HB GE271) hb); have n2_ := Aside0.mk (hbox); have n3_ := gy_ hg (bb1_ HB GE271); have n4_ := gy_ hg (bb1_ HB GE271); have n5_ := nl_ hg BK271; have n6_ := ng_ hg BK271; clear BK271; clear HB; have BK271 := n0_; have HB := n1_; have BK272 := n2_; have GW272 := n3_; have GE272 := n4_; have NB271_272 := n5_; have NB272_271 := n6_; clear n0_ n1_ n2_ n3_ n4_ n5_ n6_; clear hb hbox hg) | ((with_reducible refine gate_dst (N := 3) rfl ?_); refine box_event ?hg (N := 3) ?hd (cs := #[.int .i64 0, .int .i64 0, .int .i64 0, .int .i64 0, .int .i64 0, .bool false, .int .i64 0, .int .i64 0, .int .i64 0, .int .i64 0, .bool false, .string (⟨#[]⟩ : ByteArray), .int .i64 0]) (t := 47) ?hr ?_; (case hd => rfl); (case hg => rfl); (case hr => first | (go_simp; done) | (go_simp; rfl)); intro gb273 hg w8 hbox hb; have n0_ := Aside0.mk (lb_ BK271 hb); have n1_ := Aside0.mk (blk_below (g := gb272) (o := .cells #[.int .i64 0, .int .i64 0, .int .i64 0, .int .i64 0, .int .i64 0, .bool false, .int .i64 0, .int .i64 0, .int .i64 0, .int .i64 0, .bool false, .string (⟨#[]⟩ : ByteArray), .int .i64 0] 47 (0, 0)) (la_ BK272) hb); have n2_ := Aside0.mk (below_step (bb2_ HB GE271 GE272) hb); have n3_ := Aside0.mk (hbox); have n4_ := gy_ hg (bb2_ HB GE271 GE272); have n5_ := gy_ hg (bb2_ HB GE271 GE272); have n6_ := nl_ hg BK271; have n7_ := ng_ hg BK271; have n8_ := Aside0.mk ((by rw [hg]; exact Nat.ne_of_lt (blk_lt (g := gb272) (o := .cells #[.int .i64 0, .int .i64 0, .int .i64 0, .int .i64 0, .int .i64 0, .bool false, .int .i64 0, .int .i64 0, .int .i64 0, .int .i64 0, .bool false, .string (⟨#[]⟩ : ByteArray), .int .i64 0] 47 (0, 0)) (la_ BK272)) : gb272 ≠ gb273)); have n9_ := Aside0.mk ((by rw [hg]; exact Nat.ne_of_gt (blk_lt (g := gb272) (o := .cells #[.int .i64 0, .int .i64 0, .int .i64 0, .int .i64 0, .int .i64 0, .bool false, .int .i64 0, .int .i64 0, .int .i64 0, .int .i64 0, .bool false, .string (⟨#[]⟩ : ByteArray), .int .i64 0] 47 (0, 0)) (la_ BK272)) : gb273 ≠ gb272)); clear BK271; clear BK272; clear HB; have BK271 := n0_; have BK272 := n1_; have HB := n2_; have BK273 := n3_; have GW273 := n4_; have GE273 := n5_; have NB271_273 := n6_; have NB273_271 := n7_; have NB272_273 := n8_; have NB273_272 := n9_; clear n0_ n1_ n2_ n3_ n4_ n5_ n6_ n7_ n8_ n9_; clear hb hbox hg; have hnb9 := NB271_272.out; have hnc9 := NB272_271.out; have hnb10 := NB271_273.out; have hnc10 := NB273_271.out; have hcz11_0 := cz0_ BK271; have hcz11_1 := cz1_ BK271; have hcz11_2 := cz2_ BK271; have hcz11_3 := cz3_ BK271; have hcz11_4 : w8.cell? ⟨gb271, 4, none⟩ = some (.int .i64 a0_4) := (blk_cell BK271.out 4).trans rfl; have hcz11_5 : w8.cell? ⟨gb271, 5, none⟩ = some (.bool a0_5) := (blk_cell BK271.out 5).trans rfl; have hcz11_6 : w8.cell? ⟨gb271, 6, none⟩ = some (.int .i64 a0_6) := (blk_cell BK271.out 6).trans rfl; have hcz11_7 : w8.cell? ⟨gb271, 7, none⟩ = some (.int .i64 a0_7) := (blk_cell BK271.out 7).trans rfl; have hcz11_8 : w8.cell? ⟨gb271, 8, none⟩ = some (.int .i64 a0_8) := (blk_cell BK271.out 8).trans rfl; have hcz11_9 : w8.cell? ⟨gb271, 9, none⟩ = some (.int .i64 a0_9) := (blk_cell BK271.out 9).trans rfl; have hcz11_10 : w8.cell? ⟨gb271, 10, none⟩ = some (.bool a0_10) := (blk_cell BK271.out 10).trans rfl; have hcz11_11 : w8.cell? ⟨gb271, 11, none⟩ = some (.string a0_11) := (blk_cell BK271.out 11).trans rfl; have hcz11_12 : w8.cell? ⟨gb271, 12, none⟩ = some (.int .i64 a0_12) := (blk_cell BK271.out 12).trans rfl; have hfz11_0 := fz_ BK271 0; have hfz11_1 := fz_ BK271 1; have hfz11_2 := fz_ BK271 2; have hfz11_3 := fz_ BK271 3; have hfz11_4 := fz_ BK271 4; have hfz11_5 := fz_ BK271 5; have hfz11_6 := fz_ BK271 6; have hfz11_7 := fz_ BK271 7; have hfz11_8 := fz_ BK271 8; have hfz11_9 := fz_ BK271 9; have hfz11_10 := fz_ BK271 10; have hfz11_11 := fz_ BK271 11; have hfz11_12 := fz_ BK271 12) | ((with_reducible refine gate_callee (f := 24) rfl ?_); refine goesL_ (some 6) rfl rfl Try.func24 (by kernel_rfl) rfl #[.agg #[.int .i64 a0_0, .int .i64 a0_1, .int .i64 a0_2, .int .i64 a0_3, .int .i64 a0_4, .bool a0_5]] rfl args_ ?_; (with_reducible refine (laws_toShape.calls a0_0 a0_1 a0_2 a0_3 a0_4 a0_5 t274 t275 t276 t277 t278 t279 _ A2.out).mono ?_); rintro e w12 ⟨rfl, hb⟩; refine ⟨_, rfl, ?_⟩; have n0_ := Aside0.mk (lb_ BK271 hb); have n1_ := Aside0.mk (blk_below (g := gb272) (o := .cells #[.int .i64 0, .int .i64 0, .int .i64 0, .int .i64 0, .int .i64 0, .bool false, .int .i64 0, .int .i64 0, .int .i64 0, .int .i64 0, .bool false, .string (⟨#[]⟩ : ByteArray), .int .i64 0] 47 (0, 0)) (la_ BK272) hb); have n2_ := Aside0.mk (blk_below (g := gb273) (o := .cells #[.int .i64 0, .int .i64 0, .int .i64 0, .int .i64 0, .int .i64 0, .bool false, .int .i64 0, .int .i64 0, .int .i64 0, .int .i64 0, .bool false, .string (⟨#[]⟩ : ByteArray), .int .i64 0] 47 (0, 0)) (la_ BK273) hb); have n3_ := Aside0.mk (below_step (bb3_ HB GE271 GE272 GE273) hb); clear BK271; clear BK272; clear BK273; clear HB; have BK271 := n0_; have BK272 := n1_; have BK273 := n2_; have HB := n3_; clear n0_ n1_ n2_ n3_; (try clear hb); (try clear hb2); (try clear hk); (try clear hi); have hnb13 := NB273_272.out; have hnc13 := NB272_273.out; have hcz14_0 := cz0_ BK273; have hcz14_1 := cz1_ BK273; have hcz14_2 := cz2_ BK273; have hcz14_3 := cz3_ BK273; have hcz14_4 : w12.cell? ⟨gb273, 4, none⟩ = some (.int .i64 0) := (blk_cell BK273.out 4).trans rfl; have hcz14_5 : w12.cell? ⟨gb273, 5, none⟩ = some (.bool false) := (blk_cell BK273.out 5).trans rfl; have hcz14_6 : w12.cell? ⟨gb273, 6, none⟩ = some (.int .i64 0) := (blk_cell BK273.out 6).trans rfl; have hcz14_7 : w12.cell? ⟨gb273, 7, none⟩ = some (.int .i64 0) := (blk_cell BK273.out 7).trans rfl; have hcz14_8 : w12.cell? ⟨gb273, 8, none⟩ = some (.int .i64 0) := (blk_cell BK273.out 8).trans rfl; have hcz14_9 : w12.cell? ⟨gb273, 9, none⟩ = some (.int .i64 0) := (blk_cell BK273.out 9).trans rfl; have hcz14_10 : w12.cell? ⟨gb273, 10, none⟩ = some (.bool false) := (blk_cell BK273.out 10).trans rfl; have hcz14_11 : w12.cell? ⟨gb273, 11, none⟩ = some (.string (⟨#[]⟩ : ByteArray)) := (blk_cell BK273.out 11).trans rfl; have hcz14_12 : w12.cell? ⟨gb273, 12, none⟩ = some (.int .i64 0) := (blk_cell BK273.out 12).trans rfl; have hfz14_0 := fz_ BK273 0; have hfz14_1 := fz_ BK273 1; have hfz14_2 := fz_ BK273 2; have hfz14_3 := fz_ BK273 3; have hfz14_4 := fz_ BK273 4; have hfz14_5 := fz_ BK273 5; have hfz14_6 := fz_ BK273 6; have hfz14_7 := fz_ BK273 7; have hfz14_8 := fz_ BK273 8; have hfz14_9 := fz_ BK273 9; have hfz14_10 := fz_ BK273 10; have hfz14_11 := fz_ BK273 11; have hfz14_12 := fz_ BK273 12; have hcz15_0 := cz0_ BK271; have hcz15_1 := cz1_ BK271; have hcz15_2 := cz2_ BK271; have hcz15_3 := cz3_ BK271; have hcz15_4 : w12.cell? ⟨gb271, 4, none⟩ = some (.int .i64 a0_4) := (blk_cell BK271.out 4).trans rfl; have hcz15_5 : w12.cell? ⟨gb271, 5, none⟩ = some (.bool a0_5) := (blk_cell BK271.out 5).trans rfl; have hcz15_6 : w12.cell? ⟨gb271, 6, none⟩ = some (.int .i64 a0_6) := (blk_cell BK271.out 6).trans rfl; have hcz15_7 : w12.cell? ⟨gb271, 7, none⟩ = some (.int .i64 a0_7) := (blk_cell BK271.out 7).trans rfl; have hcz15_8 : w12.cell? ⟨gb271, 8, none⟩ = some (.int .i64 a0_8) := (blk_cell BK271.out 8).trans rfl; have hcz15_9 : w12.cell? ⟨gb271, 9, none⟩ = some (.int .i64 a0_9) := (blk_cell BK271.out 9).trans rfl; have hcz15_10 : w12.cell? ⟨gb271, 10, none⟩ = some (.bool a0_10) := (blk_cell BK271.out 10).trans rfl; have hcz15_11 : w12.cell? ⟨gb271, 11, none⟩ = some (.string a0_11) := (blk_cell BK271.out 11).trans rfl; have hcz15_12 : w12.cell? ⟨gb271, 12, none⟩ = some (.int .i64 a0_12) := (blk_cell BK271.out 12).trans rfl; have hfz15_0 := fz_ BK271 0; have hfz15_1 := fz_ BK271 1; have hfz15_2 := fz_ BK271 2; have hfz15_3 := fz_ BK271 3; have hfz15_4 := fz_ BK271 4; have hfz15_5 := fz_ BK271 5; have hfz15_6 := fz_ BK271 6; have hfz15_7 := fz_ BK271 7; have hfz15_8 := fz_ BK271 8; have hfz15_9 := fz_ BK271 9; have hfz15_10 := fz_ BK271 10; have hfz15_11 := fz_ BK271 11; have hfz15_12 := fz_ BK271 12) | ((with_reducible refine gate_callee (f := 25) rfl ?_); refine goesL_ (some 10) rfl rfl Try.func25 (by kernel_rfl) rfl #[.agg #[.int .i64 a0_6, .int .i64 a0_7]] rfl args_ ?_; (with_reducible refine (laws_toOrient.calls a0_6 a0_7 t280 t281 _ A3.out).mono ?_); rintro e w16 ⟨rfl, hb⟩; refine ⟨_, rfl, ?_⟩; have n0_ := Aside0.mk (blk_below (g := gb271) (o := .cells #[.int .i64 a0_0, .int .i64 a0_1, .int .i64 a0_2, .int .i64 a0_3, .int .i64 a0_4, .bool a0_5, .int .i64 a0_6, .int .i64 a0_7, .int .i64 a0_8, .int .i64 a0_9, .bool a0_10, .string a0_11, .int .i64 a0_12] 40 (0, 0)) (by (with_reducible repeat (first | apply lN_ | apply lD_ | apply lA_)); refine blk_far ?_ NB271_273.out _; (with_reducible repeat (first | apply lN_ | apply lD_ | apply lA_)); refine blk_far ?_ NB271_273.out _; (with_reducible repeat (first | apply lN_ | apply lD_ | apply lA_)); refine blk_far ?_ NB271_273.out _; (with_reducible repeat (first | apply lN_ | apply lD_ | apply lA_)); refine blk_far ?_ NB271_273.out _; (with_reducible repeat (first | apply lN_ | apply lD_ | apply lA_)); refine blk_far ?_ NB271_273.out _; (with_reducible repeat (first | apply lN_ | apply lD_ | apply lA_)); refine blk_far ?_ NB271_273.out _; (with_reducible repeat (first | apply lN_ | apply lD_ | apply lA_)); exact BK271.out) hb); have n1_ := Aside0.mk (blk_below (g := gb272) (o := .cells #[.int .i64 0, .int .i64 0, .int .i64 0, .int .i64 0, .int .i64 0, .bool false, .int .i64 0, .int .i64 0, .int .i64 0, .int .i64 0, .bool false, .string (⟨#[]⟩ : ByteArray), .int .i64 0] 47 (0, 0)) (by (with_reducible repeat (first | apply lN_ | apply lD_ | apply lA_)); refine blk_far ?_ NB272_273.out _; (with_reducible repeat (first | apply lN_ | apply lD_ | apply lA_)); refine blk_far ?_ NB272_273.out _; (with_reducible repeat (first | apply lN_ | apply lD_ | apply lA_)); refine blk_far ?_ NB272_273.out _; (with_reducible repeat (first | apply lN_ | apply lD_ | apply lA_)); refine blk_far ?_ NB272_273.out _; (with_reducible repeat (first | apply lN_ | apply lD_ | apply lA_)); refine blk_far ?_ NB272_273.out _; (with_reducible repeat (first | apply lN_ | apply lD_ | apply lA_)); refine blk_far ?_ NB272_273.out _; (with_reducible repeat (first | apply lN_ | apply lD_ | apply lA_)); exact BK272.out) hb); have n2_ := Aside0.mk (blk_below (g := gb273) (o := .cells #[.int .i64 t274, .int .i64 t275, .int .i64 t276, .int .i64 t277, .int .i64 t278, .bool t279, .int .i64 0, .int .i64 0, .int .i64 0, .int .i64 0, .bool false, .string (⟨#[]⟩ : ByteArray), .int .i64 0] 47 (0, 0)) (by (with_reducible repeat (first | apply lN_ | apply lD_ | apply lA_)); refine blk_put (cs := #[.int .i64 t274, .int .i64 t275, .int .i64 t276, .int .i64 t277, .int .i64 t278, .bool false, .int .i64 0, .int .i64 0, .int .i64 0, .int .i64 0, .bool false, .string (⟨#[]⟩ : ByteArray), .int .i64 0]) ?_ 5 _ rfl; (with_reducible repeat (first | apply lN_ | apply lD_ | apply lA_)); refine blk_put (cs := #[.int .i64 t274, .int .i64 t275, .int .i64 t276, .int .i64 t277, .int .i64 0, .bool false, .int .i64 0, .int .i64 0, .int .i64 0, .int .i64 0, .bool false, .string (⟨#[]⟩ : ByteArray), .int .i64 0]) ?_ 4 _ rfl; (with_reducible repeat (first | apply lN_ | apply lD_ | apply lA_)); refine blk_put (cs := #[.int .i64 t274, .int .i64 t275, .int .i64 t276, .int .i64 0, .int .i64 0, .bool false, .int .i64 0, .int .i64 0, .int .i64 0, .int .i64 0, .bool false, .string (⟨#[]⟩ : ByteArray), .int .i64 0]) ?_ 3 _ rfl; (with_reducible repeat (first | apply lN_ | apply lD_ | apply lA_)); refine blk_put (cs := #[.int .i64 t274, .int .i64 t275, .int .i64 0, .int .i64 0, .int .i64 0, .bool false, .int .i64 0, .int .i64 0, .int .i64 0, .int .i64 0, .bool false, .string (⟨#[]⟩ : ByteArray), .int .i64 0]) ?_ 2 _ rfl; (with_reducible repeat (first | apply lN_ | apply lD_ | apply lA_)); refine blk_put (cs := #[.int .i64 t274, .int .i64 0, .int .i64 0, .int .i64 0, .int .i64 0, .bool false, .int .i64 0, .int .i64 0, .int .i64 0, .int .i64 0, .bool false, .string (⟨#[]⟩ : ByteArray), .int .i64 0]) ?_ 1 _ rfl; (with_reducible repeat (first | apply lN_ | apply lD_ | apply lA_)); refine blk_put (cs := #[.int .i64 0, .int .i64 0, .int .i64 0, .int .i64 0, .int .i64 0, .bool false, .int .i64 0, .int .i64 0, .int .i64 0, .int .i64 0, .bool false, .string (⟨#[]⟩ : ByteArray), .int .i64 0]) ?_ 0 _ rfl; (with_reducible repeat (first | apply lN_ | apply lD_ | apply lA_)); exact BK273.out) hb); have n3_ := Aside0.mk (below_step (bb3_ HB GE271 GE272 GE273) hb); clear BK271; clear BK272; clear BK273; clear HB; have BK271 := n0_; have BK272 := n1_; have BK273 := n2_; have HB := n3_; clear n0_ n1_ n2_ n3_; (try clear hb); (try clear hb2); (try clear hk); (try clear hi); have hcz17_0 := cz0_ BK273; have hcz17_1 := cz1_ BK273; have hcz17_2 := cz2_ BK273; have hcz17_3 := cz3_ BK273; have hcz17_4 : w16.cell? ⟨gb273, 4, none⟩ = some (.int .i64 t278) := (blk_cell BK273.out 4).trans rfl; have hcz17_5 : w16.cell? ⟨gb273, 5, none⟩ = some (.bool t279) := (blk_cell BK273.out 5).trans rfl; have hcz17_6 : w16.cell? ⟨gb273, 6, none⟩ = some (.int .i64 0) := (blk_cell BK273.out 6).trans rfl; have hcz17_7 : w16.cell? ⟨gb273, 7, none⟩ = some (.int .i64 0) := (blk_cell BK273.out 7).trans rfl; have hcz17_8 : w16.cell? ⟨gb273, 8, none⟩ = some (.int .i64 0) := (blk_cell BK273.out 8).trans rfl; have hcz17_9 : w16.cell? ⟨gb273, 9, none⟩ = some (.int .i64 0) := (blk_cell BK273.out 9).trans rfl; have hcz17_10 : w16.cell? ⟨gb273, 10, none⟩ = some (.bool false) := (blk_cell BK273.out 10).trans rfl; have hcz17_11 : w16.cell? ⟨gb273, 11, none⟩ = some (.string (⟨#[]⟩ : ByteArray)) := (blk_cell BK273.out 11).trans rfl; have hcz17_12 : w16.cell? ⟨gb273, 12, none⟩ = some (.int .i64 0) := (blk_cell BK273.out 12).trans rfl; have hfz17_0 := fz_ BK273 0; have hfz17_1 := fz_ BK273 1; have hfz17_2 := fz_ BK273 2; have hfz17_3 := fz_ BK273 3; have hfz17_4 := fz_ BK273 4; have hfz17_5 := fz_ BK273 5; have hfz17_6 := fz_ BK273 6; have hfz17_7 := fz_ BK273 7; have hfz17_8 := fz_ BK273 8; have hfz17_9 := fz_ BK273 9; have hfz17_10 := fz_ BK273 10; have hfz17_11 := fz_ BK273 11; have hfz17_12 := fz_ BK273 12; have hcz18_0 := cz0_ BK271; have hcz18_1 := cz1_ BK271; have hcz18_2 := cz2_ BK271; have hcz18_3 := cz3_ BK271; have hcz18_4 : w16.cell? ⟨gb271, 4, none⟩ = some (.int .i64 a0_4) := (blk_cell BK271.out 4).trans rfl; have hcz18_5 : w16.cell? ⟨gb271, 5, none⟩ = some (.bool a0_5) := (blk_cell BK271.out 5).trans rfl; have hcz18_6 : w16.cell? ⟨gb271, 6, none⟩ = some (.int .i64 a0_6) := (blk_cell BK271.out 6).trans rfl; have hcz18_7 : w16.cell? ⟨gb271, 7, none⟩ = some (.int .i64 a0_7) := (blk_cell BK271.out 7).trans rfl; have hcz18_8 : w16.cell? ⟨gb271, 8, none⟩ = some (.int .i64 a0_8) := (blk_cell BK271.out 8).trans rfl; have hcz18_9 : w16.cell? ⟨gb271, 9, none⟩ = some (.int .i64 a0_9) := (blk_cell BK271.out 9).trans rfl; have hcz18_10 : w16.cell? ⟨gb271, 10, none⟩ = some (.bool a0_10) := (blk_cell BK271.out 10).trans rfl; have hcz18_11 : w16.cell? ⟨gb271, 11, none⟩ = some (.string a0_11) := (blk_cell BK271.out 11).trans rfl; have hcz18_12 : w16.cell? ⟨gb271, 12, none⟩ = some (.int .i64 a0_12) := (blk_cell BK271.out 12).trans rfl; have hfz18_0 := fz_ BK271 0; have hfz18_1 := fz_ BK271 1; have hfz18_2 := fz_ BK271 2; have hfz18_3 := fz_ BK271 3; have hfz18_4 := fz_ BK271 4; have hfz18_5 := fz_ BK271 5; have hfz18_6 := fz_ BK271 6; have hfz18_7 := fz_ BK271 7; have hfz18_8 := fz_ BK271 8; have hfz18_9 := fz_ BK271 9; have hfz18_10 := fz_ BK271 10; have hfz18_11 := fz_ BK271 11; have hfz18_12 := fz_ BK271 12) | ((with_reducible refine gate_callee (f := 26) rfl ?_); refine goesL_ (some 14) rfl rfl Try.func26 (by kernel_rfl) rfl #[.agg #[.int .i64 a0_8, .int .i64 a0_9, .bool a0_10]] rfl args_ ?_; (with_reducible refine (laws_toPlace.calls a0_8 a0_9 a0_10 t282 t283 t284 _ A4.out).mono ?_); rintro e w19 ⟨rfl, hb⟩; refine ⟨_, rfl, ?_⟩; have n0_ := Aside0.mk (blk_below (g := gb271) (o := .cells #[.int .i64 a0_0, .int .i64 a0_1, .int .i64 a0_2, .int .i64 a0_3, .int .i64 a0_4, .bool a0_5, .int .i64 a0_6, .int .i64 a0_7, .int .i64 a0_8, .int .i64 a0_9, .bool a0_10, .string a0_11, .int .i64 a0_12] 40 (0, 0)) (by (with_reducible repeat (first | apply lN_ | apply lD_ | apply lA_)); refine blk_far ?_ NB271_273.out _; (with_reducible repeat (first | apply lN_ | apply lD_ | apply lA_)); refine blk_far ?_ NB271_273.out _; (with_reducible repeat (first | apply lN_ | apply lD_ | apply lA_)); exact BK271.out) hb); have n1_ := Aside0.mk (blk_below (g := gb272) (o := .cells #[.int .i64 0, .int .i64 0, .int .i64 0, .int .i64 0, .int .i64 0, .bool false, .int .i64 0, .int .i64 0, .int .i64 0, .int .i64 0, .bool false, .string (⟨#[]⟩ : ByteArray), .int .i64 0] 47 (0, 0)) (by (with_reducible repeat (first | apply lN_ | apply lD_ | apply lA_)); refine blk_far ?_ NB272_273.out _; (with_reducible repeat (first | apply lN_ | apply lD_ | apply lA_)); refine blk_far ?_ NB272_273.out _; (with_reducible repeat (first | apply lN_ | apply lD_ | apply lA_)); exact BK272.out) hb); have n2_ := Aside0.mk (blk_below (g := gb273) (o := .cells #[.int .i64 t274, .int .i64 t275, .int .i64 t276, .int .i64 t277, .int .i64 t278, .bool t279, .int .i64 t280, .int .i64 t281, .int .i64 0, .int .i64 0, .bool false, .string (⟨#[]⟩ : ByteArray), .int .i64 0] 47 (0, 0)) (by (with_reducible repeat (first | apply lN_ | apply lD_ | apply lA_)); refine blk_put (cs := #[.int .i64 t274, .int .i64 t275, .int .i64 t276, .int .i64 t277, .int .i64 t278, .bool t279, .int .i64 t280, .int .i64 0, .int .i64 0, .int .i64 0, .bool false, .string (⟨#[]⟩ : ByteArray), .int .i64 0]) ?_ 7 _ rfl; (with_reducible repeat (first | apply lN_ | apply lD_ | apply lA_)); refine blk_put (cs := #[.int .i64 t274, .int .i64 t275, .int .i64 t276, .int .i64 t277, .int .i64 t278, .bool t279, .int .i64 0, .int .i64 0, .int .i64 0, .int .i64 0, .bool false, .string (⟨#[]⟩ : ByteArray), .int .i64 0]) ?_ 6 _ rfl; (with_reducible repeat (first | apply lN_ | apply lD_ | apply lA_)); exact BK273.out) hb); have n3_ := Aside0.mk (below_step (bb3_ HB GE271 GE272 GE273) hb); clear BK271; clear BK272; clear BK273; clear HB; have BK271 := n0_; have BK272 := n1_; have BK273 := n2_; have HB := n3_; clear n0_ n1_ n2_ n3_; (try clear hb); (try clear hb2); (try clear hk); (try clear hi); have hcz20_0 := cz0_ BK273; have hcz20_1 := cz1_ BK273; have hcz20_2 := cz2_ BK273; have hcz20_3 := cz3_ BK273; have hcz20_4 : w19.cell? ⟨gb273, 4, none⟩ = some (.int .i64 t278) := (blk_cell BK273.out 4).trans rfl; have hcz20_5 : w19.cell? ⟨gb273, 5, none⟩ = some (.bool t279) := (blk_cell BK273.out 5).trans rfl; have hcz20_6 : w19.cell? ⟨gb273, 6, none⟩ = some (.int .i64 t280) := (blk_cell BK273.out 6).trans rfl; have hcz20_7 : w19.cell? ⟨gb273, 7, none⟩ = some (.int .i64 t281) := (blk_cell BK273.out 7).trans rfl; have hcz20_8 : w19.cell? ⟨gb273, 8, none⟩ = some (.int .i64 0) := (blk_cell BK273.out 8).trans rfl; have hcz20_9 : w19.cell? ⟨gb273, 9, none⟩ = some (.int .i64 0) := (blk_cell BK273.out 9).trans rfl; have hcz20_10 : w19.cell? ⟨gb273, 10, none⟩ = some (.bool false) := (blk_cell BK273.out 10).trans rfl; have hcz20_11 : w19.cell? ⟨gb273, 11, none⟩ = some (.string (⟨#[]⟩ : ByteArray)) := (blk_cell BK273.out 11).trans rfl; have hcz20_12 : w19.cell? ⟨gb273, 12, none⟩ = some (.int .i64 0) := (blk_cell BK273.out 12).trans rfl; have hfz20_0 := fz_ BK273 0; have hfz20_1 := fz_ BK273 1; have hfz20_2 := fz_ BK273 2; have hfz20_3 := fz_ BK273 3; have hfz20_4 := fz_ BK273 4; have hfz20_5 := fz_ BK273 5; have hfz20_6 := fz_ BK273 6; have hfz20_7 := fz_ BK273 7; have hfz20_8 := fz_ BK273 8; have hfz20_9 := fz_ BK273 9; have hfz20_10 := fz_ BK273 10; have hfz20_11 := fz_ BK273 11; have hfz20_12 := fz_ BK273 12; have hcz21_0 := cz0_ BK271; have hcz21_1 := cz1_ BK271; have hcz21_2 := cz2_ BK271; have hcz21_3 := cz3_ BK271; have hcz21_4 : w19.cell? ⟨gb271, 4, none⟩ = some (.int .i64 a0_4) := (blk_cell BK271.out 4).trans rfl; have hcz21_5 : w19.cell? ⟨gb271, 5, none⟩ = some (.bool a0_5) := (blk_cell BK271.out 5).trans rfl; have hcz21_6 : w19.cell? ⟨gb271, 6, none⟩ = some (.int .i64 a0_6) := (blk_cell BK271.out 6).trans rfl; have hcz21_7 : w19.cell? ⟨gb271, 7, none⟩ = some (.int .i64 a0_7) := (blk_cell BK271.out 7).trans rfl; have hcz21_8 : w19.cell? ⟨gb271, 8, none⟩ = some (.int .i64 a0_8) := (blk_cell BK271.out 8).trans rfl; have hcz21_9 : w19.cell? ⟨gb271, 9, none⟩ = some (.int .i64 a0_9) := (blk_cell BK271.out 9).trans rfl; have hcz21_10 : w19.cell? ⟨gb271, 10, none⟩ = some (.bool a0_10) := (blk_cell BK271.out 10).trans rfl; have hcz21_11 : w19.cell? ⟨gb271, 11, none⟩ = some (.string a0_11) := (blk_cell BK271.out 11).trans rfl; have hcz21_12 : w19.cell? ⟨gb271, 12, none⟩ = some (.int .i64 a0_12) := (blk_cell BK271.out 12).trans rfl; have hfz21_0 := fz_ BK271 0; have hfz21_1 := fz_ BK271 1; have hfz21_2 := fz_ BK271 2; have hfz21_3 := fz_ BK271 3; have hfz21_4 := fz_ BK271 4; have hfz21_5 := fz_ BK271 5; have hfz21_6 := fz_ BK271 6; have hfz21_7 := fz_ BK271 7; have hfz21_8 := fz_ BK271 8; have hfz21_9 := fz_ BK271 9; have hfz21_10 := fz_ BK271 10; have hfz21_11 := fz_ BK271 11; have hfz21_12 := fz_ BK271 12) | ((with_reducible refine gate_callee (f := 8) rfl ?_); refine goesL_ (some 18) rfl rfl Try.func8 (by kernel_rfl) rfl #[.agg #[.string a0_11, .int .i64 a0_12]] rfl args_ ?_; (with_reducible refine (laws_toMove.calls a0_11 a0_12 t285 t286 _ A5.out).mono ?_); rintro e w22 ⟨rfl, hb⟩; refine ⟨_, rfl, ?_⟩; have n0_ := Aside0.mk (blk_below (g := gb271) (o := .cells #[.int .i64 a0_0, .int .i64 a0_1, .int .i64 a0_2, .int .i64 a0_3, .int .i64 a0_4, .bool a0_5, .int .i64 a0_6, .int .i64 a0_7, .int .i64 a0_8, .int .i64 a0_9, .bool a0_10, .string a0_11, .int .i64 a0_12] 40 (0, 0)) (by (with_reducible repeat (first | apply lN_ | apply lD_ | apply lA_)); refine blk_far ?_ NB271_273.out _; (with_reducible repeat (first | apply lN_ | apply lD_ | apply lA_)); refine blk_far ?_ NB271_273.out _; (with_reducible repeat (first | apply lN_ | apply lD_ | apply lA_)); refine blk_far ?_ NB271_273.out _; (with_reducible repeat (first | apply lN_ | apply lD_ | apply lA_)); exact BK271.out) hb); have n1_ := Aside0.mk (blk_below (g := gb272) (o := .cells #[.int .i64 0, .int .i64 0, .int .i64 0, .int .i64 0, .int .i64 0, .bool false, .int .i64 0, .int .i64 0, .int .i64 0, .int .i64 0, .bool false, .string (⟨#[]⟩ : ByteArray), .int .i64 0] 47 (0, 0)) (by (with_reducible repeat (first | apply lN_ | apply lD_ | apply lA_)); refine blk_far ?_ NB272_273.out _; (with_reducible repeat (first | apply lN_ | apply lD_ | apply lA_)); refine blk_far ?_ NB272_273.out _; (with_reducible repeat (first | apply lN_ | apply lD_ | apply lA_)); refine blk_far ?_ NB272_273.out _; (with_reducible repeat (first | apply lN_ | apply lD_ | apply lA_)); exact BK272.out) hb); have n2_ := Aside0.mk (blk_below (g := gb273) (o := .cells #[.int .i64 t274, .int .i64 t275, .int .i64 t276, .int .i64 t277, .int .i64 t278, .bool t279, .int .i64 t280, .int .i64 t281, .int .i64 t282, .int .i64 t283, .bool t284, .string (⟨#[]⟩ : ByteArray), .int .i64 0] 47 (0, 0)) (by (with_reducible repeat (first | apply lN_ | apply lD_ | apply lA_)); refine blk_put (cs := #[.int .i64 t274, .int .i64 t275, .int .i64 t276, .int .i64 t277, .int .i64 t278, .bool t279, .int .i64 t280, .int .i64 t281, .int .i64 t282, .int .i64 t283, .bool false, .string (⟨#[]⟩ : ByteArray), .int .i64 0]) ?_ 10 _ rfl; (with_reducible repeat (first | apply lN_ | apply lD_ | apply lA_)); refine blk_put (cs := #[.int .i64 t274, .int .i64 t275, .int .i64 t276, .int .i64 t277, .int .i64 t278, .bool t279, .int .i64 t280, .int .i64 t281, .int .i64 t282, .int .i64 0, .bool false, .string (⟨#[]⟩ : ByteArray), .int .i64 0]) ?_ 9 _ rfl; (with_reducible repeat (first | apply lN_ | apply lD_ | apply lA_)); refine blk_put (cs := #[.int .i64 t274, .int .i64 t275, .int .i64 t276, .int .i64 t277, .int .i64 t278, .bool t279, .int .i64 t280, .int .i64 t281, .int .i64 0, .int .i64 0, .bool false, .string (⟨#[]⟩ : ByteArray), .int .i64 0]) ?_ 8 _ rfl; (with_reducible repeat (first | apply lN_ | apply lD_ | apply lA_)); exact BK273.out) hb); have n3_ := Aside0.mk (below_step (bb3_ HB GE271 GE272 GE273) hb); clear BK271; clear BK272; clear BK273; clear HB; have BK271 := n0_; have BK272 := n1_; have BK273 := n2_; have HB := n3_; clear n0_ n1_ n2_ n3_; (try clear hb); (try clear hb2); (try clear hk); (try clear hi); have hcz23_0 := cz0_ BK273; have hcz23_1 := cz1_ BK273; have hcz23_2 := cz2_ BK273; have hcz23_3 := cz3_ BK273; have hcz23_4 : w22.cell? ⟨gb273, 4, none⟩ = some (.int .i64 t278) := (blk_cell BK273.out 4).trans rfl; have hcz23_5 : w22.cell? ⟨gb273, 5, none⟩ = some (.bool t279) := (blk_cell BK273.out 5).trans rfl; have hcz23_6 : w22.cell? ⟨gb273, 6, none⟩ = some (.int .i64 t280) := (blk_cell BK273.out 6).trans rfl; have hcz23_7 : w22.cell? ⟨gb273, 7, none⟩ = some (.int .i64 t281) := (blk_cell BK273.out 7).trans rfl; have hcz23_8 : w22.cell? ⟨gb273, 8, none⟩ = some (.int .i64 t282) := (blk_cell BK273.out 8).trans rfl; have hcz23_9 : w22.cell? ⟨gb273, 9, none⟩ = some (.int .i64 t283) := (blk_cell BK273.out 9).trans rfl; have hcz23_10 : w22.cell? ⟨gb273, 10, none⟩ = some (.bool t284) := (blk_cell BK273.out 10).trans rfl; have hcz23_11 : w22.cell? ⟨gb273, 11, none⟩ = some (.string (⟨#[]⟩ : ByteArray)) := (blk_cell BK273.out 11).trans rfl; have hcz23_12 : w22.cell? ⟨gb273, 12, none⟩ = some (.int .i64 0) := (blk_cell BK273.out 12).trans rfl; have hfz23_0 := fz_ BK273 0; have hfz23_1 := fz_ BK273 1; have hfz23_2 := fz_ BK273 2; have hfz23_3 := fz_ BK273 3; have hfz23_4 := fz_ BK273 4; have hfz23_5 := fz_ BK273 5; have hfz23_6 := fz_ BK273 6; have hfz23_7 := fz_ BK273 7; have hfz23_8 := fz_ BK273 8; have hfz23_9 := fz_ BK273 9; have hfz23_10 := fz_ BK273 10; have hfz23_11 := fz_ BK273 11; have hfz23_12 := fz_ BK273 12; have hcz24_0 := cz0_ BK272; have hcz24_1 := cz1_ BK272; have hcz24_2 := cz2_ BK272; have hcz24_3 := cz3_ BK272; have hcz24_4 : w22.cell? ⟨gb272, 4, none⟩ = some (.int .i64 0) := (blk_cell BK272.out 4).trans rfl; have hcz24_5 : w22.cell? ⟨gb272, 5, none⟩ = some (.bool false) := (blk_cell BK272.out 5).trans rfl; have hcz24_6 : w22.cell? ⟨gb272, 6, none⟩ = some (.int .i64 0) := (blk_cell BK272.out 6).trans rfl; have hcz24_7 : w22.cell? ⟨gb272, 7, none⟩ = some (.int .i64 0) := (blk_cell BK272.out 7).trans rfl; have hcz24_8 : w22.cell? ⟨gb272, 8, none⟩ = some (.int .i64 0) := (blk_cell BK272.out 8).trans rfl; have hcz24_9 : w22.cell? ⟨gb272, 9, none⟩ = some (.int .i64 0) := (blk_cell BK272.out 9).trans rfl; have hcz24_10 : w22.cell? ⟨gb272, 10, none⟩ = some (.bool false) := (blk_cell BK272.out 10).trans rfl; have hcz24_11 : w22.cell? ⟨gb272, 11, none⟩ = some (.string (⟨#[]⟩ : ByteArray)) := (blk_cell BK272.out 11).trans rfl; have hcz24_12 : w22.cell? ⟨gb272, 12, none⟩ = some (.int .i64 0) := (blk_cell BK272.out 12).trans rfl; have hfz24_0 := fz_ BK272 0; have hfz24_1 := fz_ BK272 1; have hfz24_2 := fz_ BK272 2; have hfz24_3 := fz_ BK272 3; have hfz24_4 := fz_ BK272 4; have hfz24_5 := fz_ BK272 5; have hfz24_6 := fz_ BK272 6; have hfz24_7 := fz_ BK272 7; have hfz24_8 := fz_ BK272 8; have hfz24_9 := fz_ BK272 9; have hfz24_10 := fz_ BK272 10; have hfz24_11 := fz_ BK272 11; have hfz24_12 := fz_ BK272 12))
 refine bodyPost_ret (results_cell_row rfl _ _ gb272 47 #[.int .i64 t274, .int .i64 t275, .int .i64 t276, .int .i64 t277, .int .i64 t278, .bool t279, .int .i64 t280, .int .i64 t281, .int .i64 t282, .int .i64 t283, .bool t284, .string t285, .int .i64 t286] (0, 0) _ rfl (by (with_reducible repeat (first | apply lN_ | apply lD_ | apply lA_)); refine blk_put (cs := #[.int .i64 t274, .int .i64 t275, .int .i64 t276, .int .i64 t277, .int .i64 t278, .bool t279, .int .i64 t280, .int .i64 t281, .int .i64 t282, .int .i64 t283, .bool t284, .string t285, .int .i64 0]) ?_ 12 _ rfl; (with_reducible repeat (first | apply lN_ | apply lD_ | apply lA_)); refine blk_put (cs := #[.int .i64 t274, .int .i64 t275, .int .i64 t276, .int .i64 t277, .int .i64 t278, .bool t279, .int .i64 t280, .int .i64 t281, .int .i64 t282, .int .i64 t283, .bool t284, .string (⟨#[]⟩ : ByteArray), .int .i64 0]) ?_ 11 _ rfl; (with_reducible repeat (first | apply lN_ | apply lD_ | apply lA_)); refine blk_put (cs := #[.int .i64 t274, .int .i64 t275, .int .i64 t276, .int .i64 t277, .int .i64 t278, .bool t279, .int .i64 t280, .int .i64 t281, .int .i64 t282, .int .i64 t283, .bool false, .string (⟨#[]⟩ : ByteArray), .int .i64 0]) ?_ 10 _ rfl; (with_reducible repeat (first | apply lN_ | apply lD_ | apply lA_)); refine blk_put (cs := #[.int .i64 t274, .int .i64 t275, .int .i64 t276, .int .i64 t277, .int .i64 t278, .bool t279, .int .i64 t280, .int .i64 t281, .int .i64 t282, .int .i64 0, .bool false, .string (⟨#[]⟩ : ByteArray), .int .i64 0]) ?_ 9 _ rfl; (with_reducible repeat (first | apply lN_ | apply lD_ | apply lA_)); refine blk_put (cs := #[.int .i64 t274, .int .i64 t275, .int .i64 t276, .int .i64 t277, .int .i64 t278, .bool t279, .int .i64 t280, .int .i64 t281, .int .i64 0, .int .i64 0, .bool false, .string (⟨#[]⟩ : ByteArray), .int .i64 0]) ?_ 8 _ rfl; (with_reducible repeat (first | apply lN_ | apply lD_ | apply lA_)); refine blk_put (cs := #[.int .i64 t274, .int .i64 t275, .int .i64 t276, .int .i64 t277, .int .i64 t278, .bool t279, .int .i64 t280, .int .i64 0, .int .i64 0, .int .i64 0, .bool false, .string (⟨#[]⟩ : ByteArray), .int .i64 0]) ?_ 7 _ rfl; (with_reducible repeat (first | apply lN_ | apply lD_ | apply lA_)); refine blk_put (cs := #[.int .i64 t274, .int .i64 t275, .int .i64 t276, .int .i64 t277, .int .i64 t278, .bool t279, .int .i64 0, .int .i64 0, .int .i64 0, .int .i64 0, .bool false, .string (⟨#[]⟩ : ByteArray), .int .i64 0]) ?_ 6 _ rfl; (with_reducible repeat (first | apply lN_ | apply lD_ | apply lA_)); refine blk_put (cs := #[.int .i64 t274, .int .i64 t275, .int .i64 t276, .int .i64 t277, .int .i64 t278, .bool false, .int .i64 0, .int .i64 0, .int .i64 0, .int .i64 0, .bool false, .string (⟨#[]⟩ : ByteArray), .int .i64 0]) ?_ 5 _ rfl; (with_reducible repeat (first | apply lN_ | apply lD_ | apply lA_)); refine blk_put (cs := #[.int .i64 t274, .int .i64 t275, .int .i64 t276, .int .i64 t277, .int .i64 0, .bool false, .int .i64 0, .int .i64 0, .int .i64 0, .int .i64 0, .bool false, .string (⟨#[]⟩ : ByteArray), .int .i64 0]) ?_ 4 _ rfl; (with_reducible repeat (first | apply lN_ | apply lD_ | apply lA_)); refine blk_put (cs := #[.int .i64 t274, .int .i64 t275, .int .i64 t276, .int .i64 0, .int .i64 0, .bool false, .int .i64 0, .int .i64 0, .int .i64 0, .int .i64 0, .bool false, .string (⟨#[]⟩ : ByteArray), .int .i64 0]) ?_ 3 _ rfl; (with_reducible repeat (first | apply lN_ | apply lD_ | apply lA_)); refine blk_put (cs := #[.int .i64 t274, .int .i64 t275, .int .i64 0, .int .i64 0, .int .i64 0, .bool false, .int .i64 0, .int .i64 0, .int .i64 0, .int .i64 0, .bool false, .string (⟨#[]⟩ : ByteArray), .int .i64 0]) ?_ 2 _ rfl; (with_reducible repeat (first | apply lN_ | apply lD_ | apply lA_)); refine blk_put (cs := #[.int .i64 t274, .int .i64 0, .int .i64 0, .int .i64 0, .int .i64 0, .bool false, .int .i64 0, .int .i64 0, .int .i64 0, .int .i64 0, .bool false, .string (⟨#[]⟩ : ByteArray), .int .i64 0]) ?_ 1 _ rfl; (with_reducible repeat (first | apply lN_ | apply lD_ | apply lA_)); refine blk_put (cs := #[.int .i64 0, .int .i64 0, .int .i64 0, .int .i64 0, .int .i64 0, .bool false, .int .i64 0, .int .i64 0, .int .i64 0, .int .i64 0, .bool false, .string (⟨#[]⟩ : ByteArray), .int .i64 0]) ?_ 0 _ rfl; (with_reducible repeat (first | apply lN_ | apply lD_ | apply lA_)); refine blk_far ?_ NB272_273.out _; (with_reducible repeat (first | apply lN_ | apply lD_ | apply lA_)); refine blk_far ?_ NB272_273.out _; (with_reducible repeat (first | apply lN_ | apply lD_ | apply lA_)); exact BK272.out) Try.underlying47 rfl (by kernel_rfl)) rfl ?_
 exact ⟨by first | rfl | (simp [errW_none, errW_some] <;> rfl) | (simp [*, errW_none, errW_some] <;> rfl), bb3_ HB GE271 GE272 GE273⟩

/-! ### impl_allWithin: function 60 -/
/-- Does a number lie outside of a range? -/
def awOut (a1 a2 x : Int) : Bool := !decide (a1 ≤ x ∧ x ≤ a2)
/-- The first place with such a number, or -1. -/
def awIdx (a1 a2 : Int) : Nat → List Int → Int
 | _, [] => -1
 | i, x :: xs => if awOut a1 a2 x = true then (i : Int) else awIdx a1 a2 (i + 1) xs
def awAll (a1 a2 : Int) (l : List Int) : Bool := l.all fun x => decide (a1 ≤ x ∧ x ≤ a2)
theorem awIdx_all (a1 a2 : Int) : ∀ (l : List Int) (i : Nat), (!decide (0 ≤ awIdx a1 a2 i l)) = awAll a1 a2 l
 | [], i => by simp [awIdx, awAll]
 | x :: xs, i => by
  unfold awIdx
  by_cases h : awOut a1 a2 x = true
  ·rw [if_pos h]
   unfold awOut at h
   simp only [Bool.not_eq_true'] at h
   simp only [awAll, List.all_cons, h, Bool.false_and]
   simp
  ·rw [if_neg h, awIdx_all a1 a2 xs (i + 1)]
   unfold awOut at h
   simp only [Bool.not_eq_true', Bool.not_eq_false] at h
   simp only [awAll, List.all_cons, h, Bool.true_and]
theorem aw_within (a b c : Int) : impl_within.f a b c = some (decide (b ≤ a ∧ a ≤ c)) := by
 unfold impl_within.f
 by_cases h : b ≤ a
 ·rw [if_pos h]; simp [h]
 ·rw [if_neg h]; simp [h]
set_option maxHeartbeats 4000000 in
set_option maxRecDepth 100000 in
theorem awOut_calls (x a1 a2 : Int) (p0 p1 : Nat) (w : World) (h0 : w.heap[p0]? = some (.cells #[.int .i64 a1] 3 (0, 0))) (h1 : w.heap[p1]? = some (.cells #[.int .i64 a2] 3 (0, 0))) :
  Calls Try.prog 73 #[.int .i64 x, .pointer (some ⟨p0, 0, none⟩), .pointer (some ⟨p1, 0, none⟩)] w fun e w' => e = .returned (.bool (awOut a1 a2 x)) ∧ Drawn0 w w' := by
 have hz0 : w.cell? ⟨p0, 0, none⟩ = some (.int .i64 a1) := (blk_cell h0 0).trans rfl
 have hz1 : w.cell? ⟨p1, 0, none⟩ = some (.int .i64 a2) := (blk_cell h1 0).trans rfl
 have HA := Aside0.mk (aw_within x a1 a2)
 clear h0 h1
 go_enter Try.func73, Try.ntmps73
 go_wp2_with (go_at_call 33; (with_reducible refine (impl_within.calls x a1 a2 _ _ HA.out).mono ?_); rintro e w' ⟨rfl, ⟨nd, rfl⟩⟩)
 go_ret
 exact ⟨by first | rfl | (simp [awOut]; done), by repeat (first | exact Drawn0.refl _ | apply Drawn0.step)⟩
/-- What holds of the numbers from i on. -/
def AWFrom (a1 a2 : Int) (l : List Int) (i : Nat) (r : Int) : Prop := i ≤ l.length ∧ awIdx a1 a2 i (l.drop i) = r
theorem aw_step {a1 a2 : Int} {l : List Int} {i : Nat} {r : Int} (h : AWFrom a1 a2 l i r) (hlt : i < l.length) : (awOut a1 a2 (rd l (i : Int)) = false → AWFrom a1 a2 l (i + 1) r) ∧ (awOut a1 a2 (rd l (i : Int)) = true → r = (i : Int)) := by
 obtain ⟨_, h⟩ := h
 rw [List.drop_eq_getElem_cons hlt] at h
 unfold awIdx at h
 have e : rd l (i : Int) = l[i] := by
  unfold rd
  rw [List.getD_eq_getElem?_getD]
  simp [hlt]
 rw [e]
 refine ⟨fun e => ?_, fun e => ?_⟩
 ·rw [e, if_neg (by decide)] at h; exact ⟨by omega, h⟩
 ·rw [if_pos e] at h; exact h.symm
theorem aw_end {a1 a2 : Int} {l : List Int} {i : Nat} {r : Int} (h : AWFrom a1 a2 l i r) (hge : ¬ i < l.length) : r = -1 := by
 obtain ⟨hi, h⟩ := h
 rw [List.drop_eq_nil_of_le (by omega)] at h
 exact h.symm
set_option maxHeartbeats 4000000 in
set_option maxRecDepth 100000 in
theorem awIndex_calls (A : Option Addr) (c : Nat) (l : List Int) (a1 a2 : Int) (p0 p1 : Nat) (w : World) (hr : Kd.C (Kd.int .i64) w A l.length l) (hn : l.length ≤ 1000) (h0 : w.heap[p0]? = some (.cells #[.int .i64 a1] 3 (0, 0))) (h1 : w.heap[p1]? = some (.cells #[.int .i64 a2] 3 (0, 0))) :
  Calls Try.prog 77 #[.slice A l.length c, .func (.func 73) #[] #[.pointer (some ⟨p0, 0, none⟩), .pointer (some ⟨p1, 0, none⟩)]] w fun e w' => e = .returned (.int .i64 (awIdx a1 a2 0 l)) ∧ Drawn0 w w' := by
 obtain ⟨r, hr0⟩ : ∃ r, awIdx a1 a2 0 l = r := ⟨_, rfl⟩
 rw [hr0]
 have HR := Aside0.mk hr
 have BK0 := Aside0.mk h0
 have BK1 := Aside0.mk h1
 have HN := Aside0.mk (show AWFrom a1 a2 l 0 r from ⟨Nat.zero_le _, by rw [List.drop_zero]; exact hr0⟩)
 have HD := Aside0.mk (Drawn0.refl w)
 have HL := Aside0.mk hn
 clear hr h0 h1 hn hr0
 go_enter Try.func77, Try.ntmps77
 go_wp2
 go_loopg [8] (l.length) (fun kq v8 w' => ∃ i : Nat, v8 = .int .i64 (i : Int) ∧ Aside0 (kq = l.length - i) ∧ Aside0 (AWFrom a1 a2 l i r) ∧ Aside0 (Drawn0 w w'))
 case atStart => exact ⟨0, rfl, ⟨rfl⟩, HN, HD⟩
 case round =>
  clear HN HD
  obtain ⟨i, rfl, HK, HN, HD⟩ := hrel
  have hll := HL.out
  by_cases hlt : i < l.length
  ·obtain ⟨n1, n2⟩ := aw_step HN.out hlt
   have BK0r := Aside0.mk (blk_below BK0.out HD.out.below)
   have BK1r := Aside0.mk (blk_below BK1.out HD.out.below)
   obtain ⟨ad, eA, hx⟩ := Kd.at_int (Kd.C_below HR.out HD.out.below) (i : Int) (by omega) (by omega)
   cases eA
   have hx : wr.cell? (ad.add i) = some (.int .i64 (rd l (i : Int))) := hx
   have HW := Aside0.mk (fun W h0 h1 => awOut_calls (rd l (i : Int)) a1 a2 p0 p1 W h0 h1)
   generalize rd l (i : Int) = x at n1 n2 hx HW
   have hi0 : (0 : Int) ≤ (i : Int) := by omega
   have hi1 : (i : Int) < (l.length : Int) := by omega
   cases ho : awOut a1 a2 x
   ·have h3 := Aside0.mk (n1 ho)
    rw [ho] at HW
    clear n1 n2 ho
    go_wp2_with (go_at_call 73; (with_reducible refine (HW.out _ BK0r.out BK1r.out).mono ?_); rintro e w' ⟨rfl, ⟨nd, rfl⟩⟩)
    go_roundg (l.length - (i + 1))
    case measure => have := HK.out; omega
    case rel => exact ⟨i + 1, by first | rfl | (simp; done), ⟨rfl⟩, h3, ⟨by repeat (first | exact HD.out | apply Drawn0.step)⟩⟩
   ·have h3 := Aside0.mk (n2 ho)
    rw [ho] at HW
    clear n1 n2 ho
    go_wp2_with (go_at_call 73; (with_reducible refine (HW.out _ BK0r.out BK1r.out).mono ?_); rintro e w' ⟨rfl, ⟨nd, rfl⟩⟩)
    go_ret
    exact ⟨by rw [h3.out]; rfl, by repeat (first | exact HD.out | apply Drawn0.step)⟩
  ·have h3 := aw_end HN.out hlt
   subst h3
   go_wp2
   go_ret
   exact ⟨rfl, HD.out⟩
set_option maxHeartbeats 4000000 in
set_option maxRecDepth 100000 in
theorem awContains_calls (A : Option Addr) (c : Nat) (l : List Int) (a1 a2 : Int) (p0 p1 : Nat) (w : World) (hr : Kd.C (Kd.int .i64) w A l.length l) (hn : l.length ≤ 1000) (h0 : w.heap[p0]? = some (.cells #[.int .i64 a1] 3 (0, 0))) (h1 : w.heap[p1]? = some (.cells #[.int .i64 a2] 3 (0, 0))) :
  Calls Try.prog 72 #[.slice A l.length c, .func (.func 73) #[] #[.pointer (some ⟨p0, 0, none⟩), .pointer (some ⟨p1, 0, none⟩)]] w fun e w' => e = .returned (.bool (!awAll a1 a2 l)) ∧ Drawn0 w w' := by
 have HC := Aside0.mk (awIndex_calls A c l a1 a2 p0 p1 w hr hn h0 h1)
 have HQ := Aside0.mk (awIdx_all a1 a2 l 0)
 generalize awIdx a1 a2 0 l = r at HC HQ
 generalize awAll a1 a2 l = b at HQ
 clear hr hn h0 h1
 go_enter Try.func72, Try.ntmps72
 go_wp2_with (go_at_call 77; refine HC.out.mono ?_; rintro e wq ⟨rfl, ⟨nd, rfl⟩⟩)
 go_ret
 exact ⟨by have := HQ.out; first | (rw [← this]; simp; done) | (simp [← this]; done), by repeat (first | exact Drawn0.refl _ | apply Drawn0.step)⟩
def impl_allWithin.f (l0 : List Int) (a1 a2 : Int) : Option Bool := if l0.length ≤ 1000 then some (awAll a1 a2 l0) else none
set_option maxHeartbeats 4000000 in
set_option maxRecDepth 100000 in
theorem impl_allWithin.calls (A0 : Option Addr) (c0 : Nat) (l0 : List Int) (a1 : Int) (a2 : Int) (r : Bool) (w : World) (hr0 : Kd.C (Kd.int .i64) w A0 l0.length l0) (hc0 : l0.length ≤ c0) (h : impl_allWithin.f l0 a1 a2 = some r) :
  Calls Try.prog 60 #[.slice A0 l0.length c0, .int .i64 a1, .int .i64 a2] w fun e w' => e = .returned (.bool r) ∧ Below w.heap.size w w' := by
 unfold impl_allWithin.f at h
 by_cases hl : l0.length ≤ 1000
 ·rw [if_pos hl] at h
  obtain rfl := Option.some.inj h
  have HB := Aside0.mk (Below.refl w.heap.size w)
  have HC := Aside0.mk (fun W (hb : Below w.heap.size w W) p0 p1 h0 h1 => awContains_calls A0 c0 l0 a1 a2 p0 p1 W (Kd.C_below hr0 hb) hl h0 h1)
  clear hl h hr0 hc0
  go_enter Try.func60, Try.ntmps60
  go_wp2_with (first | ((with_reducible refine gate_dst (N := 4) rfl ?_); refine box_event ?hg (N := 4) ?hd (cs := #[.int .i64 a1]) (t := 3) ?hr ?_; (case hd => rfl); (case hg => rfl); (case hr => first | (go_simp; done) | (go_simp; rfl)); intro g0 hg wq hbox hb; have n0_ := Aside0.mk (bt_ HB hb); have n1_ := Aside0.mk hbox; have n2_ := gz_ hg HB; clear HB; have HB := n0_; have BK0 := n1_; have GE0 := n2_; clear n0_ n1_ n2_ hb hg hbox) | ((with_reducible refine gate_dst (N := 5) rfl ?_); refine box_event ?hg (N := 5) ?hd (cs := #[.int .i64 a2]) (t := 3) ?hr ?_; (case hd => rfl); (case hg => rfl); (case hr => first | (go_simp; done) | (go_simp; rfl)); intro g1 hg wq hbox hb; have n0_ := Aside0.mk (bt_ HB hb); have n1_ := Aside0.mk hbox; have n2_ := Aside0.mk (lb_ BK0 hb); clear HB BK0; have HB := n0_; have BK1 := n1_; have BK0 := n2_; clear n0_ n1_ n2_ hb hg hbox) | (go_at_call 72; refine (HC.out _ (bb_ HB) _ _ (la_ BK0) (la_ BK1)).mono ?_; rintro e wq ⟨rfl, ⟨nd, rfl⟩⟩))
  go_ret
  exact ⟨by first | rfl | (simp; done), bb_ HB⟩
 ·rw [if_neg hl] at h; exact absurd h (by simp)

/-! ### impl_Shape_bends: function 61 -/
def impl_Shape_bends.f (a0_0 : Int) (a0_1 : Int) (a0_2 : Int) (a0_3 : Int) (a0_4 : Int) (a0_5 : Bool) : Option (List Int) := some (([a0_1, a0_2, a0_3, a0_4] : List Int))
set_option maxHeartbeats 8000000 in
set_option maxRecDepth 100000 in
theorem impl_Shape_bends.calls (a0_0 : Int) (a0_1 : Int) (a0_2 : Int) (a0_3 : Int) (a0_4 : Int) (a0_5 : Bool) (r : List Int) (w : World) (h : impl_Shape_bends.f a0_0 a0_1 a0_2 a0_3 a0_4 a0_5 = some r) :
  Calls Try.prog 61 #[.agg #[.int .i64 a0_0, .int .i64 a0_1, .int .i64 a0_2, .int .i64 a0_3, .int .i64 a0_4, .bool a0_5]] w fun e w' => ∃ v0_ : Value, e = .returned (v0_) ∧ Kd.R (Kd.int .i64) 3 w' w.heap.size (fun _ => True) v0_ r ∧ Below w.heap.size w w' := by
 have hu43 := Try.underlying43
 have HB := Aside0.mk (Below.refl w.heap.size w)
 have H : (some (([a0_1, a0_2, a0_3, a0_4] : List Int))) = some r := h
 clear h
 obtain ⟨y288, hy288⟩ : ∃ y_ : List Int, y_ = (([a0_1, a0_2, a0_3, a0_4] : List Int)) := ⟨_, rfl⟩
 replace H : (some y288) = some r := by first | (rw [hy288]; with_reducible exact H) | (have H2_ := (Option.bind_some _ _).symm.trans H; rw [hy288]; with_reducible exact H2_) | (have H2_ := (Option.bind_some _ _).symm.trans H; with_reducible exact H2_) | with_reducible exact H | (rw [hy288]; exact H) | exact H
 have Ny288 := Aside0.mk hy288
 clear hy288
 obtain rfl := Option.some.inj H
 go_enter Try.func61, Try.ntmps61
 go_wp2_with (first | ((with_reducible refine gate_dst (N := 1) rfl ?_); refine box_event ?hg (N := 1) ?hd (cs := #[.int .i64 a0_0, .int .i64 a0_1, .int .i64 a0_2, .int .i64 a0_3, .int .i64 a0_4, .bool a0_5]) (t := 43) ?hr ?_; (case hd => rfl); (case hg => rfl); (case hr => first | (go_simp; done) | (go_simp; rfl)); intro gb287 hg w2 hbox hb; have n0_ := Aside0.mk (bt_ HB hb); have n1_ := Aside0.mk (hbox); have n2_ := gz_ hg HB; have n3_ := gz_ hg HB; clear HB; have HB := n0_; have BK287 := n1_; have GW287 := n2_; have GE287 := n3_; clear n0_ n1_ n2_ n3_; clear hb hbox hg; have hcz3_0 := cz0_ BK287; have hcz3_1 := cz1_ BK287; have hcz3_2 := cz2_ BK287; have hcz3_3 := cz3_ BK287; have hcz3_4 : w2.cell? ⟨gb287, 4, none⟩ = some (.int .i64 a0_4) := (blk_cell BK287.out 4).trans rfl; have hcz3_5 : w2.cell? ⟨gb287, 5, none⟩ = some (.bool a0_5) := (blk_cell BK287.out 5).trans rfl; have hfz3_0 := fz_ BK287 0; have hfz3_1 := fz_ BK287 1; have hfz3_2 := fz_ BK287 2; have hfz3_3 := fz_ BK287 3; have hfz3_4 := fz_ BK287 4; have hfz3_5 := fz_ BK287 5) | ((with_reducible refine gate_dst (N := 11) rfl ?_); refine Kd.R_lit (Kd.int .i64) _ 3 ?hg (N := 11) ?hd (xs := ([a0_1, a0_2, a0_3, a0_4] : List Int)) (inner := [.int .i64 a0_1, .int .i64 a0_2, .int .i64 a0_3, .int .i64 a0_4]) (ok := fun _ => True) (okp := fun _ => True) ?hr ?hp (fun _ hk => hk) trivial (Below.refl _ _) (Nat.le_refl _) (by simp) ?_; (case hd => rfl); (case hg => rfl); (case hr => first | (go_simp; done) | (go_simp; rfl)); (case hp => exact (Reps.one (show Kd.M (Kd.int .i64) _ _ _ a0_1 [.int .i64 a0_1] from rfl) (Reps.one (show Kd.M (Kd.int .i64) _ _ _ a0_2 [.int .i64 a0_2] from rfl) (Reps.one (show Kd.M (Kd.int .i64) _ _ _ a0_3 [.int .i64 a0_3] from rfl) (Reps.one (show Kd.M (Kd.int .i64) _ _ _ a0_4 [.int .i64 a0_4] from rfl) (Reps.none _ _)))))); intro v289 w4 ho5 hb hg_ hnew_; clear hg_ hnew_; (first | rw [← Ny288.out] at ho5 | (simp only [Int.reduceToNat] at ho5; rw [← Ny288.out] at ho5)); have n0_ := Aside0.mk (Kd.R_lower ho5 (below_size (bb1_ HB GE287))); have n1_ := Aside0.mk (lb_ BK287 hb); have n2_ := Aside0.mk (below_step (bb1_ HB GE287) hb); clear BK287; clear HB; have HO290 := n0_; have BK287 := n1_; have HB := n2_; clear n0_ n1_ n2_; clear hb ho5))
 go_ret
 exact ⟨_, by first | rfl | (simp [errW_none, errW_some] <;> rfl) | (simp [*, errW_none, errW_some] <;> rfl), by (with_reducible repeat (first | apply rA_ | apply rN_ | apply rD_)); exact HO290.out, bb1_ HB GE287⟩

/-! ### impl_Shape_maySpread: function 62 -/
def impl_Shape_maySpread.f (a0_0 : Int) (a0_1 : Int) (a0_2 : Int) (a0_3 : Int) (a0_4 : Int) (a0_5 : Bool) : Option (Bool) := if a0_2 = 0 then (if a0_1 = 0 then (some true) else (if a0_3 = 0 then (some true) else (some false))) else (if a0_3 = 0 then (some (a0_4 == 0)) else (some false))
set_option maxHeartbeats 8000000 in
set_option maxRecDepth 100000 in
theorem impl_Shape_maySpread.calls (a0_0 : Int) (a0_1 : Int) (a0_2 : Int) (a0_3 : Int) (a0_4 : Int) (a0_5 : Bool) (r : Bool) (w : World) (h : impl_Shape_maySpread.f a0_0 a0_1 a0_2 a0_3 a0_4 a0_5 = some r) :
  Calls Try.prog 62 #[.agg #[.int .i64 a0_0, .int .i64 a0_1, .int .i64 a0_2, .int .i64 a0_3, .int .i64 a0_4, .bool a0_5]] w fun e w' => e = .returned (.bool r) ∧ Below w.heap.size w w' := by
 have hu43 := Try.underlying43
 have HB := Aside0.mk (Below.refl w.heap.size w)
 have H : (if a0_2 = 0 then (if a0_1 = 0 then (some true) else (if a0_3 = 0 then (some true) else (some false))) else (if a0_3 = 0 then (some (a0_4 == 0)) else (some false))) = some r := h
 clear h
 by_cases c2 : a0_2 = 0
 ·rw [if_pos c2] at H
  have c2b0 : (a0_2 == 0) = true := beq_iff_eq.mpr c2
  have c2b1 : (a0_2 != 0) = false := bne_eq_false_iff_eq.mpr c2
  clear c2
  by_cases c3 : a0_1 = 0
  ·rw [if_pos c3] at H
   have c3b0 : (a0_1 == 0) = true := beq_iff_eq.mpr c3
   have c3b1 : (a0_1 != 0) = false := bne_eq_false_iff_eq.mpr c3
   clear c3
   obtain rfl := Option.some.inj H
   go_enter Try.func62, Try.ntmps62
   go_wp2_with (first | ((with_reducible refine gate_dst (N := 1) rfl ?_); refine box_event ?hg (N := 1) ?hd (cs := #[.int .i64 a0_0, .int .i64 a0_1, .int .i64 a0_2, .int .i64 a0_3, .int .i64 a0_4, .bool a0_5]) (t := 43) ?hr ?_; (case hd => rfl); (case hg => rfl); (case hr => first | (go_simp; done) | (go_simp; rfl)); intro gb291 hg w4 hbox hb; have n0_ := Aside0.mk (bt_ HB hb); have n1_ := Aside0.mk (hbox); have n2_ := gz_ hg HB; have n3_ := gz_ hg HB; clear HB; have HB := n0_; have BK291 := n1_; have GW291 := n2_; have GE291 := n3_; clear n0_ n1_ n2_ n3_; clear hb hbox hg; have hcz5_0 := cz0_ BK291; have hcz5_1 := cz1_ BK291; have hcz5_2 := cz2_ BK291; have hcz5_3 := cz3_ BK291; have hcz5_4 : w4.cell? ⟨gb291, 4, none⟩ = some (.int .i64 a0_4) := (blk_cell BK291.out 4).trans rfl; have hcz5_5 : w4.cell? ⟨gb291, 5, none⟩ = some (.bool a0_5) := (blk_cell BK291.out 5).trans rfl; have hfz5_0 := fz_ BK291 0; have hfz5_1 := fz_ BK291 1; have hfz5_2 := fz_ BK291 2; have hfz5_3 := fz_ BK291 3; have hfz5_4 := fz_ BK291 4; have hfz5_5 := fz_ BK291 5))
   go_ret
   exact ⟨by first | rfl | (simp [errW_none, errW_some] <;> rfl) | (simp [*, errW_none, errW_some] <;> rfl), bb1_ HB GE291⟩
  ·rw [if_neg c3] at H
   have c3b0 : (a0_1 == 0) = false := beq_eq_false_iff_ne.mpr c3
   have c3b1 : (a0_1 != 0) = true := bne_iff_ne.mpr c3
   by_cases c6 : a0_3 = 0
   ·rw [if_pos c6] at H
    have c6b0 : (a0_3 == 0) = true := beq_iff_eq.mpr c6
    have c6b1 : (a0_3 != 0) = false := bne_eq_false_iff_eq.mpr c6
    clear c6
    obtain rfl := Option.some.inj H
    go_enter Try.func62, Try.ntmps62
    go_wp2_with (first | ((with_reducible refine gate_dst (N := 1) rfl ?_); refine box_event ?hg (N := 1) ?hd (cs := #[.int .i64 a0_0, .int .i64 a0_1, .int .i64 a0_2, .int .i64 a0_3, .int .i64 a0_4, .bool a0_5]) (t := 43) ?hr ?_; (case hd => rfl); (case hg => rfl); (case hr => first | (go_simp; done) | (go_simp; rfl)); intro gb291 hg w7 hbox hb; have n0_ := Aside0.mk (bt_ HB hb); have n1_ := Aside0.mk (hbox); have n2_ := gz_ hg HB; have n3_ := gz_ hg HB; clear HB; have HB := n0_; have BK291 := n1_; have GW291 := n2_; have GE291 := n3_; clear n0_ n1_ n2_ n3_; clear hb hbox hg; have hcz8_0 := cz0_ BK291; have hcz8_1 := cz1_ BK291; have hcz8_2 := cz2_ BK291; have hcz8_3 := cz3_ BK291; have hcz8_4 : w7.cell? ⟨gb291, 4, none⟩ = some (.int .i64 a0_4) := (blk_cell BK291.out 4).trans rfl; have hcz8_5 : w7.cell? ⟨gb291, 5, none⟩ = some (.bool a0_5) := (blk_cell BK291.out 5).trans rfl; have hfz8_0 := fz_ BK291 0; have hfz8_1 := fz_ BK291 1; have hfz8_2 := fz_ BK291 2; have hfz8_3 := fz_ BK291 3; have hfz8_4 := fz_ BK291 4; have hfz8_5 := fz_ BK291 5))
    go_ret
    exact ⟨by first | rfl | (simp [errW_none, errW_some] <;> rfl) | (simp [*, errW_none, errW_some] <;> rfl), bb1_ HB GE291⟩
   ·rw [if_neg c6] at H
    have c6b0 : (a0_3 == 0) = false := beq_eq_false_iff_ne.mpr c6
    have c6b1 : (a0_3 != 0) = true := bne_iff_ne.mpr c6
    obtain rfl := Option.some.inj H
    go_enter Try.func62, Try.ntmps62
    go_wp2_with (first | ((with_reducible refine gate_dst (N := 1) rfl ?_); refine box_event ?hg (N := 1) ?hd (cs := #[.int .i64 a0_0, .int .i64 a0_1, .int .i64 a0_2, .int .i64 a0_3, .int .i64 a0_4, .bool a0_5]) (t := 43) ?hr ?_; (case hd => rfl); (case hg => rfl); (case hr => first | (go_simp; done) | (go_simp; rfl)); intro gb291 hg w9 hbox hb; have n0_ := Aside0.mk (bt_ HB hb); have n1_ := Aside0.mk (hbox); have n2_ := gz_ hg HB; have n3_ := gz_ hg HB; clear HB; have HB := n0_; have BK291 := n1_; have GW291 := n2_; have GE291 := n3_; clear n0_ n1_ n2_ n3_; clear hb hbox hg; have hcz10_0 := cz0_ BK291; have hcz10_1 := cz1_ BK291; have hcz10_2 := cz2_ BK291; have hcz10_3 := cz3_ BK291; have hcz10_4 : w9.cell? ⟨gb291, 4, none⟩ = some (.int .i64 a0_4) := (blk_cell BK291.out 4).trans rfl; have hcz10_5 : w9.cell? ⟨gb291, 5, none⟩ = some (.bool a0_5) := (blk_cell BK291.out 5).trans rfl; have hfz10_0 := fz_ BK291 0; have hfz10_1 := fz_ BK291 1; have hfz10_2 := fz_ BK291 2; have hfz10_3 := fz_ BK291 3; have hfz10_4 := fz_ BK291 4; have hfz10_5 := fz_ BK291 5))
    go_ret
    exact ⟨by first | rfl | (simp [errW_none, errW_some] <;> rfl) | (simp [*, errW_none, errW_some] <;> rfl), bb1_ HB GE291⟩
 ·rw [if_neg c2] at H
  have c2b0 : (a0_2 == 0) = false := beq_eq_false_iff_ne.mpr c2
  have c2b1 : (a0_2 != 0) = true := bne_iff_ne.mpr c2
  by_cases c11 : a0_3 = 0
  ·rw [if_pos c11] at H
   have c11b0 : (a0_3 == 0) = true := beq_iff_eq.mpr c11
   have c11b1 : (a0_3 != 0) = false := bne_eq_false_iff_eq.mpr c11
   clear c11
   obtain rfl := Option.some.inj H
   go_enter Try.func62, Try.ntmps62
   go_wp2_with (first | ((with_reducible refine gate_dst (N := 1) rfl ?_); refine box_event ?hg (N := 1) ?hd (cs := #[.int .i64 a0_0, .int .i64 a0_1, .int .i64 a0_2, .int .i64 a0_3, .int .i64 a0_4, .bool a0_5]) (t := 43) ?hr ?_; (case hd => rfl); (case hg => rfl); (case hr => first | (go_simp; done) | (go_simp; rfl)); intro gb291 hg w12 hbox hb; have n0_ := Aside0.mk (bt_ HB hb); have n1_ := Aside0.mk (hbox); have n2_ := gz_ hg HB; have n3_ := gz_ hg HB; clear HB; have HB := n0_; have BK291 := n1_; have GW291 := n2_; have GE291 := n3_; clear n0_ n1_ n2_ n3_; clear hb hbox hg; have hcz13_0 := cz0_ BK291; have hcz13_1 := cz1_ BK291; have hcz13_2 := cz2_ BK291; have hcz13_3 := cz3_ BK291; have hcz13_4 : w12.cell? ⟨gb291, 4, none⟩ = some (.int .i64 a0_4) := (blk_cell BK291.out 4).trans rfl; have hcz13_5 : w12.cell? ⟨gb291, 5, none⟩ = some (.bool a0_5) := (blk_cell BK291.out 5).trans rfl; have hfz13_0 := fz_ BK291 0; have hfz13_1 := fz_ BK291 1; have hfz13_2 := fz_ BK291 2; have hfz13_3 := fz_ BK291 3; have hfz13_4 := fz_ BK291 4; have hfz13_5 := fz_ BK291 5))
   go_ret
   exact ⟨by first | rfl | (simp [errW_none, errW_some] <;> rfl) | (simp [*, errW_none, errW_some] <;> rfl), bb1_ HB GE291⟩
  ·rw [if_neg c11] at H
   have c11b0 : (a0_3 == 0) = false := beq_eq_false_iff_ne.mpr c11
   have c11b1 : (a0_3 != 0) = true := bne_iff_ne.mpr c11
   obtain rfl := Option.some.inj H
   go_enter Try.func62, Try.ntmps62
   go_wp2_with (first | ((with_reducible refine gate_dst (N := 1) rfl ?_); refine box_event ?hg (N := 1) ?hd (cs := #[.int .i64 a0_0, .int .i64 a0_1, .int .i64 a0_2, .int .i64 a0_3, .int .i64 a0_4, .bool a0_5]) (t := 43) ?hr ?_; (case hd => rfl); (case hg => rfl); (case hr => first | (go_simp; done) | (go_simp; rfl)); intro gb291 hg w14 hbox hb; have n0_ := Aside0.mk (bt_ HB hb); have n1_ := Aside0.mk (hbox); have n2_ := gz_ hg HB; have n3_ := gz_ hg HB; clear HB; have HB := n0_; have BK291 := n1_; have GW291 := n2_; have GE291 := n3_; clear n0_ n1_ n2_ n3_; clear hb hbox hg; have hcz15_0 := cz0_ BK291; have hcz15_1 := cz1_ BK291; have hcz15_2 := cz2_ BK291; have hcz15_3 := cz3_ BK291; have hcz15_4 : w14.cell? ⟨gb291, 4, none⟩ = some (.int .i64 a0_4) := (blk_cell BK291.out 4).trans rfl; have hcz15_5 : w14.cell? ⟨gb291, 5, none⟩ = some (.bool a0_5) := (blk_cell BK291.out 5).trans rfl; have hfz15_0 := fz_ BK291 0; have hfz15_1 := fz_ BK291 1; have hfz15_2 := fz_ BK291 2; have hfz15_3 := fz_ BK291 3; have hfz15_4 := fz_ BK291 4; have hfz15_5 := fz_ BK291 5))
   go_ret
   exact ⟨by first | rfl | (simp [errW_none, errW_some] <;> rfl) | (simp [*, errW_none, errW_some] <;> rfl), bb1_ HB GE291⟩

end Go.Proofs.Ytadddkdfbmbagaa.PA
