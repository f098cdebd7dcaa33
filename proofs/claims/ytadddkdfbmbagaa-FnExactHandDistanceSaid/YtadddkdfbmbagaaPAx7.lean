-- Written by a program of this session (wip/tools/myprint.py). Not trusted: Lean checks it.
import Derived.Test.YtadddkdfbmbagaaPAx0
import Derived.Test.YtadddkdfbmbagaaPAx1
import Derived.Test.YtadddkdfbmbagaaPAx6
namespace Go.Proofs.Ytadddkdfbmbagaa.PA
open Go.RowKit Go.Proofs.YtadddkdfbmbagaaW.PrintWords Go.Proofs.YtadddkdfbmbagaaW.PrintLast Go.Proofs.YtadddkdfbmbagaaW.PrintMore
attribute [local go_sem] max2_int min2_int max_two min_two max_three min_three max_four min_four   -- for this text's walks alone
set_option linter.unusedVariables false
set_option linter.unusedSimpArgs false

/-! ### impl_IsShape: function 41 -/
def impl_IsShape.f (a0_0 : Int) (a0_1 : Int) (a0_2 : Int) (a0_3 : Int) (a0_4 : Int) (a0_5 : Bool) : Option (Bool) := (some (([a0_0] : List Int) : List Int)).bind fun y293 => ((impl_Shape_bends.f a0_0 a0_1 a0_2 a0_3 a0_4 a0_5).bind fun t296 => (if y293.length + t296.length < 17592186044416 then ((impl_allWithin.f (y293 ++ t296) 0 2).bind fun t302 => (if t302 = true then (if a0_5 = true then ((impl_Shape_maySpread.f a0_0 a0_1 a0_2 a0_3 a0_4 a0_5).bind fun t303 => (some t303)) else (some true)) else (some false))) else (none)))
def impl_IsShape.T1 : Bool × List (List Nat × List Nat) := (true, [([], []), ([0], [0]), ([1], [1]), ([], []), ([3], [3]), ([2, 4, 4], [2, 4]), ([5, 5], [5]), ([6], [6])])
def impl_IsShape.B1 : List Nat := [0, 1, 3, 0, 8, 31, 63, 127]
theorem impl_IsShape.tab1 : rtab .any (opsOf Try.f41 1) = impl_IsShape.T1 := by kernel_rfl
theorem impl_IsShape.bits1 : waitsOk impl_IsShape.T1.2 impl_IsShape.B1 = true := by kernel_rfl
set_option maxHeartbeats 8000000 in
set_option maxRecDepth 100000 in
theorem impl_IsShape.calls (a0_0 : Int) (a0_1 : Int) (a0_2 : Int) (a0_3 : Int) (a0_4 : Int) (a0_5 : Bool) (r : Bool) (w : World) (h : impl_IsShape.f a0_0 a0_1 a0_2 a0_3 a0_4 a0_5 = some r) :
  Calls Try.prog 41 #[.agg #[.int .i64 a0_0, .int .i64 a0_1, .int .i64 a0_2, .int .i64 a0_3, .int .i64 a0_4, .bool a0_5]] w fun e w' => e = .returned (.bool r) ∧ Below w.heap.size w w' := by
 have hu43 := Try.underlying43
 have HB := Aside0.mk (Below.refl w.heap.size w)
 have H : ((some (([a0_0] : List Int) : List Int)).bind fun y293 => ((impl_Shape_bends.f a0_0 a0_1 a0_2 a0_3 a0_4 a0_5).bind fun t296 => (if y293.length + t296.length < 17592186044416 then ((impl_allWithin.f (y293 ++ t296) 0 2).bind fun t302 => (if t302 = true then (if a0_5 = true then ((impl_Shape_maySpread.f a0_0 a0_1 a0_2 a0_3 a0_4 a0_5).bind fun t303 => (some t303)) else (some true)) else (some false))) else (none)))) = some r := h
 clear h
 obtain ⟨y293, hy293⟩ : ∃ y_ : List Int, y_ = (([a0_0] : List Int)) := ⟨_, rfl⟩
 replace H : ((impl_Shape_bends.f a0_0 a0_1 a0_2 a0_3 a0_4 a0_5).bind fun t296 => (if y293.length + t296.length < 17592186044416 then ((impl_allWithin.f (y293 ++ t296) 0 2).bind fun t302 => (if t302 = true then (if a0_5 = true then ((impl_Shape_maySpread.f a0_0 a0_1 a0_2 a0_3 a0_4 a0_5).bind fun t303 => (some t303)) else (some true)) else (some false))) else (none))) = some r := by first | (rw [hy293]; with_reducible exact H) | (have H2_ := (Option.bind_some _ _).symm.trans H; rw [hy293]; with_reducible exact H2_) | (have H2_ := (Option.bind_some _ _).symm.trans H; with_reducible exact H2_) | with_reducible exact H | (rw [hy293]; exact H) | exact H
 have Ny293 := Aside0.mk hy293
 clear hy293
 replace H := Option.bind_eq_some_iff.mp H
 obtain ⟨t296, A20, H⟩ := H
 try dsimp only at H
 have A2 := Aside0.mk A20
 clear A20
 by_cases c3 : y293.length + t296.length < 17592186044416
 ·rw [if_pos c3] at H
  have LMc3 := Aside0.mk c3
  clear c3
  obtain ⟨y299, hy299⟩ : ∃ y_ : List Int, y_ = (y293 ++ t296) := ⟨_, rfl⟩
  replace H : ((impl_allWithin.f y299 0 2).bind fun t302 => (if t302 = true then (if a0_5 = true then ((impl_Shape_maySpread.f a0_0 a0_1 a0_2 a0_3 a0_4 a0_5).bind fun t303 => (some t303)) else (some true)) else (some false))) = some r := by first | (rw [hy299]; with_reducible exact H) | (have H2_ := (Option.bind_some _ _).symm.trans H; rw [hy299]; with_reducible exact H2_) | (have H2_ := (Option.bind_some _ _).symm.trans H; with_reducible exact H2_) | with_reducible exact H | (rw [hy299]; exact H) | exact H
  have Ny299 := Aside0.mk hy299
  clear hy299
  replace H := Option.bind_eq_some_iff.mp H
  obtain ⟨t302, A40, H⟩ := H
  try dsimp only at H
  have A4 := Aside0.mk A40
  clear A40
  by_cases c5 : t302 = true
  ·subst c5
   have H1 : (if a0_5 = true then ((impl_Shape_maySpread.f a0_0 a0_1 a0_2 a0_3 a0_4 a0_5).bind fun t303 => (some t303)) else (some true)) = some r := by rw [if_pos rfl] at H; exact H
   clear H
   have H := H1
   clear H1
   by_cases c6 : a0_5 = true
   ·subst c6
    have H1 : ((impl_Shape_maySpread.f a0_0 a0_1 a0_2 a0_3 a0_4 true).bind fun t303 => (some t303)) = some r := by rw [if_pos rfl] at H; exact H
    clear H
    have H := H1
    clear H1
    replace H := Option.bind_eq_some_iff.mp H
    obtain ⟨t303, A70, H⟩ := H
    try dsimp only at H
    have A7 := Aside0.mk A70
    clear A70
    obtain rfl := Option.some.inj H
    go_enter Try.func41, Try.ntmps41
    try go_wp2_with (first | ((with_reducible refine gate_dst (N := 1) rfl ?_); refine box_event ?hg (N := 1) ?hd (cs := #[.int .i64 a0_0, .int .i64 a0_1, .int .i64 a0_2, .int .i64 a0_3, .int .i64 a0_4, .bool true]) (t := 43) ?hr ?_; (case hd => rfl); (case hg => rfl); (case hr => first | (go_simp; done) | (go_simp; rfl)); intro gb292 hg w8 hbox hb; have n0_ := Aside0.mk (bt_ HB hb); have n1_ := Aside0.mk (hbox); have n2_ := gz_ hg HB; have n3_ := gz_ hg HB; clear HB; have HB := n0_; have BK292 := n1_; have GW292 := n2_; have GE292 := n3_; clear n0_ n1_ n2_ n3_; clear hb hbox hg))
    have n0_ := Aside0.mk (blk_drew BK292.out)
    have n1_ := Aside0.mk (below_drew1 HB.out)
    clear BK292
    clear HB
    have BK292 := n0_
    have HB := n1_
    clear n0_ n1_
    refine start_ (n := 8) (S := fun w' => w'.cell? ⟨gb292, 0, none⟩ = some (.int .i64 a0_0) ∧ w'.cell? ⟨gb292, 1, none⟩ = some (.int .i64 a0_1) ∧ w'.cell? ⟨gb292, 2, none⟩ = some (.int .i64 a0_2) ∧ w'.cell? ⟨gb292, 3, none⟩ = some (.int .i64 a0_3) ∧ w'.cell? ⟨gb292, 4, none⟩ = some (.int .i64 a0_4) ∧ w'.cell? ⟨gb292, 5, none⟩ = some (.bool true)) (ds := []) #[false, false, false, false, false, false, false, false] (by kernel_rfl) rfl rfl ⟨(blk_cell BK292.out 0).trans rfl, (blk_cell BK292.out 1).trans rfl, (blk_cell BK292.out 2).trans rfl, (blk_cell BK292.out 3).trans rfl, (blk_cell BK292.out 4).trans rfl, (blk_cell BK292.out 5).trans rfl⟩ (fun hHeld => ?_); refine with_tabW impl_IsShape.tab1 impl_IsShape.bits1 (fun HT_ HW_ => ?_)
    generalize w8.drew = w9 at BK292 HB hHeld ⊢
    refine pu_ (i := 0) (N := some 3) (v := ?_) (a' := ?_) #[true, false, false, false, false, false, false, false] rfl rfl (Or.inl ⟨by rfl, ?_⟩) ?_ ?_
    rotate_left
    ·intro w'
     go_simp
     with_reducible rfl
    rotate_left
    ·simp only [Act.put, sA_, sB_, sC_, i64_w, i32_w]
     rfl
    refine take_ (i := 1) (N := some 4) (v := ?_) (a' := ?_) #[true, true, false, false, false, false, false, false] rfl rfl (take_ofW HT_.out HW_.out (by kernel_rfl)) (fun _ _ _ h => h) (Or.inl ⟨by rfl, ?_⟩) hHeld ?_ ?_
    rotate_left
    ·rintro w' ⟨s0, s1, s2, s3, s4, s5⟩
     go_simp
     with_reducible rfl
    rotate_left
    ·simp only [Act.put, sA_, sB_, sC_, i64_w, i32_w]
     rfl
    refine take_ (i := 3) (N := some 6) (v := ?_) (a' := ?_) #[true, true, false, true, false, false, false, false] rfl rfl (take_ofW HT_.out HW_.out (by kernel_rfl)) (fun _ _ _ h => h) (Or.inl ⟨by rfl, ?_⟩) hHeld ?_ ?_
    rotate_left
    ·rintro w' ⟨s0, s1, s2, s3, s4, s5⟩
     go_simp
     with_reducible rfl
    rotate_left
    ·simp only [Act.put, sA_, sB_, sC_, i64_w, i32_w]
     rfl
    refine join_ (σ := Value × Value) 3 #[true, true, true, true, true, false, false, false] (fun s_ => [(5, s_.1), (7, s_.2)]) (fun s_ w' => (w'.cell? ⟨gb292, 0, none⟩ = some (.int .i64 a0_0) ∧ w'.cell? ⟨gb292, 1, none⟩ = some (.int .i64 a0_1) ∧ w'.cell? ⟨gb292, 2, none⟩ = some (.int .i64 a0_2) ∧ w'.cell? ⟨gb292, 3, none⟩ = some (.int .i64 a0_3) ∧ w'.cell? ⟨gb292, 4, none⟩ = some (.int .i64 a0_4) ∧ w'.cell? ⟨gb292, 5, none⟩ = some (.bool true)) ∧ (Kd.R (Kd.int .i64) 3 w' w.heap.size (fun k_ => some k_ ≠ (s_.2 : Value).ownBlock) s_.1 y293) ∧ (Kd.R (Kd.int .i64) 3 w' w.heap.size (fun k_ => some k_ ≠ (s_.1 : Value).ownBlock) s_.2 t296) ∧ (w'.heap[gb292]? = some (.cells #[.int .i64 a0_0, .int .i64 a0_1, .int .i64 a0_2, .int .i64 a0_3, .int .i64 a0_4, .bool true] 43 (0, 0))) ∧ (Below w.heap.size w w')) ?_ ?_
    rotate_left
    ·intro hCont
     refine two_ (i := 2) (j := 4) (Ni := some 5) (Nj := some 7) #[true, true, true, true, false, false, false, false] #[true, true, false, true, true, false, false, false] rfl rfl rfl rfl (two_of HT_.out (by kernel_rfl)) (by decide) (by decide) (fun K hK => ?_) (fun K hK => ?_)
     ·skip
      refine Kd.R_lit_step (Kd.int .i64) _ 3 ?hg (N := 5) ?hd (xs := ([a0_0] : List Int)) (inner := [.int .i64 a0_0]) (ok := fun _ => True) (okp := fun _ => True) ?hr ?hp (fun _ hk => hk) trivial (Below.refl _ _) (Nat.le_refl _) (by simp) ?_; (case hd => rfl); (case hg => rfl); (case hr => first | (go_simp; done) | (go_simp; rfl)); (case hp => exact (Reps.one (show Kd.M (Kd.int .i64) _ _ _ a0_0 [.int .i64 a0_0] from rfl) (Reps.none _ _)))
      intro v294 w10 ho11 hb hg_ hnew_
      clear hg_ hnew_
      (first | rw [← Ny293.out] at ho11 | (simp only [Int.reduceToNat] at ho11; rw [← Ny293.out] at ho11))
      have n0_ := Aside0.mk (Kd.R_lower ho11 (below_size (bb1_ HB GE292)))
      have n1_ := Aside0.mk (lb_ BK292 hb)
      have n2_ := Aside0.mk (below_step (bb1_ HB GE292) hb)
      clear BK292
      clear HB
      have HO295 := n0_
      have BK292 := n1_
      have HB := n2_
      clear n0_ n1_ n2_
      clear hb ho11
      refine hK.out _ _ ⟨(blk_cell BK292.out 0).trans rfl, (blk_cell BK292.out 1).trans rfl, (blk_cell BK292.out 2).trans rfl, (blk_cell BK292.out 3).trans rfl, (blk_cell BK292.out 4).trans rfl, (blk_cell BK292.out 5).trans rfl⟩ (fun hHeld => ?_)
      clear hK K
      refine norm_ (a' := ?_) ?_ ?_
      rotate_left
      ·show Act.put _ (some 5) _ = _
       simp only [Act.put, sA_, sB_, sC_, i64_w, i32_w]
       rfl
      refine one_ (i := 4) (N := some 7) #[true, true, true, true, true, false, false, false] rfl rfl (one_of HT_.out (by kernel_rfl)) (by decide) (fun K hK => ?_)
      refine goes_ Try.func61 (by kernel_rfl) rfl #[.agg #[.int .i64 a0_0, .int .i64 a0_1, .int .i64 a0_2, .int .i64 a0_3, .int .i64 a0_4, .bool true]] (by rfl) rfl rfl args_ ?_
      with_reducible refine (impl_Shape_bends.calls a0_0 a0_1 a0_2 a0_3 a0_4 true t296 _ A2.out).mono ?_
      rintro e w12 ⟨v297, rfl, ho0, hb⟩
      refine ⟨_, rfl, ?_⟩
      have n0_ := Aside0.mk (Kd.R_elder' (ra_ HO295) (Kd.R_base ho0) hb)
      have n1_ := Aside0.mk (Kd.R_lower (Kd.R_new' ho0 (Kd.R_lt (ra_ HO295))) (below_size (bb1_ HB GE292)))
      have n2_ := Aside0.mk (lb_ BK292 hb)
      have n3_ := Aside0.mk (below_step (bb1_ HB GE292) hb)
      clear HO295
      clear BK292
      clear HB
      have HO295 := n0_
      have HO298 := n1_
      have BK292 := n2_
      have HB := n3_
      clear n0_ n1_ n2_ n3_
      (try clear hb)
      (try clear hb2)
      (try clear hk)
      (try clear hi)
      (try clear ho0)
      refine hK.out _ _ ⟨(blk_cell BK292.out 0).trans rfl, (blk_cell BK292.out 1).trans rfl, (blk_cell BK292.out 2).trans rfl, (blk_cell BK292.out 3).trans rfl, (blk_cell BK292.out 4).trans rfl, (blk_cell BK292.out 5).trans rfl⟩ (fun hHeld => ?_)
      clear hK K
      refine norm_ (a' := ?_) ?_ ?_
      rotate_left
      ·show Act.put _ (some 7) _ = _
       simp only [Act.put, sA_, sB_, sC_, i64_w, i32_w]
       rfl
      exact norm_ (by simp only [putAll, Act.put, List.setIfInBounds_toArray, List.set_cons_zero, List.set_cons_succ]) (hCont (v294, v297) _ ⟨hHeld, (by (with_reducible repeat (first | apply rA_ | apply rN_ | apply rD_)); exact Kd.R_mono HO295.out (fun _ hk => hk.2)), (by (with_reducible repeat (first | apply rA_ | apply rN_ | apply rD_)); exact Kd.R_mono HO298.out (fun _ hk => hk.2)), (la_ BK292), (bb1_ HB GE292)⟩)
     ·skip
      refine goes_ Try.func61 (by kernel_rfl) rfl #[.agg #[.int .i64 a0_0, .int .i64 a0_1, .int .i64 a0_2, .int .i64 a0_3, .int .i64 a0_4, .bool true]] (by rfl) rfl rfl args_ ?_
      with_reducible refine (impl_Shape_bends.calls a0_0 a0_1 a0_2 a0_3 a0_4 true t296 _ A2.out).mono ?_
      rintro e w10 ⟨v297, rfl, ho0, hb⟩
      refine ⟨_, rfl, ?_⟩
      have n0_ := Aside0.mk (Kd.R_lower ho0 (below_size (bb1_ HB GE292)))
      have n1_ := Aside0.mk (lb_ BK292 hb)
      have n2_ := Aside0.mk (below_step (bb1_ HB GE292) hb)
      clear BK292
      clear HB
      have HO298 := n0_
      have BK292 := n1_
      have HB := n2_
      clear n0_ n1_ n2_
      (try clear hb)
      (try clear hb2)
      (try clear hk)
      (try clear hi)
      (try clear ho0)
      refine hK.out _ _ ⟨(blk_cell BK292.out 0).trans rfl, (blk_cell BK292.out 1).trans rfl, (blk_cell BK292.out 2).trans rfl, (blk_cell BK292.out 3).trans rfl, (blk_cell BK292.out 4).trans rfl, (blk_cell BK292.out 5).trans rfl⟩ (fun hHeld => ?_)
      clear hK K
      refine norm_ (a' := ?_) ?_ ?_
      rotate_left
      ·show Act.put _ (some 7) _ = _
       simp only [Act.put, sA_, sB_, sC_, i64_w, i32_w]
       rfl
      refine one_ (i := 2) (N := some 5) #[true, true, true, true, true, false, false, false] rfl rfl (one_of HT_.out (by kernel_rfl)) (by decide) (fun K hK => ?_)
      refine Kd.R_lit_step (Kd.int .i64) _ 3 ?hg (N := 5) ?hd (xs := ([a0_0] : List Int)) (inner := [.int .i64 a0_0]) (ok := fun _ => True) (okp := fun _ => True) ?hr ?hp (fun _ hk => hk) trivial (Below.refl _ _) (Nat.le_refl _) (by simp) ?_; (case hd => rfl); (case hg => rfl); (case hr => first | (go_simp; done) | (go_simp; rfl)); (case hp => exact (Reps.one (show Kd.M (Kd.int .i64) _ _ _ a0_0 [.int .i64 a0_0] from rfl) (Reps.none _ _)))
      intro v294 w11 ho12 hb hg_ hnew_
      clear hg_ hnew_
      (first | rw [← Ny293.out] at ho12 | (simp only [Int.reduceToNat] at ho12; rw [← Ny293.out] at ho12))
      have n0_ := Aside0.mk (Kd.R_elder' (ra_ HO298) (Kd.R_base ho12) hb)
      have n1_ := Aside0.mk (Kd.R_lower (Kd.R_new' ho12 (Kd.R_lt (ra_ HO298))) (below_size (bb1_ HB GE292)))
      have n2_ := Aside0.mk (lb_ BK292 hb)
      have n3_ := Aside0.mk (below_step (bb1_ HB GE292) hb)
      clear HO298
      clear BK292
      clear HB
      have HO298 := n0_
      have HO295 := n1_
      have BK292 := n2_
      have HB := n3_
      clear n0_ n1_ n2_ n3_
      clear hb ho12
      refine hK.out _ _ ⟨(blk_cell BK292.out 0).trans rfl, (blk_cell BK292.out 1).trans rfl, (blk_cell BK292.out 2).trans rfl, (blk_cell BK292.out 3).trans rfl, (blk_cell BK292.out 4).trans rfl, (blk_cell BK292.out 5).trans rfl⟩ (fun hHeld => ?_)
      clear hK K
      refine norm_ (a' := ?_) ?_ ?_
      rotate_left
      ·show Act.put _ (some 5) _ = _
       simp only [Act.put, sA_, sB_, sC_, i64_w, i32_w]
       rfl
      exact norm_ (by simp only [putAll, Act.put, List.setIfInBounds_toArray, List.set_cons_zero, List.set_cons_succ]) (hCont (v294, v297) _ ⟨hHeld, (by (with_reducible repeat (first | apply rA_ | apply rN_ | apply rD_)); exact Kd.R_mono HO295.out (fun _ hk => hk.2)), (by (with_reducible repeat (first | apply rA_ | apply rN_ | apply rD_)); exact Kd.R_mono HO298.out (fun _ hk => hk.2)), (la_ BK292), (bb1_ HB GE292)⟩)
    rintro ⟨v294, v297⟩ w13 ⟨hS_, h0_, h1_, h2_, h3_⟩
    have n0_ : Aside0 (Kd.R (Kd.int .i64) 3 w13 w.heap.size (fun k_ => some k_ ≠ (v297 : Value).ownBlock) v294 y293) := ⟨h0_⟩
    have n1_ : Aside0 (Kd.R (Kd.int .i64) 3 w13 w.heap.size (fun k_ => some k_ ≠ (v294 : Value).ownBlock) v297 t296) := ⟨h1_⟩
    have n2_ : Aside0 (w13.heap[gb292]? = some (.cells #[.int .i64 a0_0, .int .i64 a0_1, .int .i64 a0_2, .int .i64 a0_3, .int .i64 a0_4, .bool true] 43 (0, 0))) := ⟨h2_⟩
    have n3_ : Aside0 (Below w.heap.size w w13) := ⟨h3_⟩
    clear BK292
    clear HB
    clear h0_ h1_ h2_ h3_
    have HO295 := n0_
    have HO298 := n1_
    have BK292 := n2_
    have HB := n3_
    clear n0_ n1_ n2_ n3_
    have hHeld : w13.cell? ⟨gb292, 0, none⟩ = some (.int .i64 a0_0) ∧ w13.cell? ⟨gb292, 1, none⟩ = some (.int .i64 a0_1) ∧ w13.cell? ⟨gb292, 2, none⟩ = some (.int .i64 a0_2) ∧ w13.cell? ⟨gb292, 3, none⟩ = some (.int .i64 a0_3) ∧ w13.cell? ⟨gb292, 4, none⟩ = some (.int .i64 a0_4) ∧ w13.cell? ⟨gb292, 5, none⟩ = some (.bool true) := hS_
    obtain ⟨Ao15, co15, eo15⟩ := Kd.R_slice HO298.out
    (first | subst eo15 | (injection eo15 with f1_ f2_ f3_; have f4_ := f1_.symm; have f5_ := f3_.symm; clear f1_ f2_ f3_; subst f4_; subst f5_))
    refine norm_ (a' := ?_) ?_ ?_
    rotate_left
    ·simp only [putAll, Act.put, List.setIfInBounds_toArray, List.set_cons_zero, List.set_cons_succ]
     rfl
    refine one_ (i := 5) (N := some 8) #[true, true, true, true, true, true, false, false] rfl rfl (one_of HT_.out (by kernel_rfl)) (by decide) (fun K hK => ?_)
    refine Kd.R_append_rows_step (Kd.int .i64) (w0 := w) w.heap.size (by rfl) (.tmp 5) (.tmp 7) 64 3 (.int .i64 0) 8 rfl Try.underlying64 info3 rfl (by decide) (by omega) v294 y293 t296 _ _ _ (fun k_ => some k_ ≠ (.slice Ao15 t296.length co15 : Value).ownBlock) (fun _ => False) rfl rfl ?aO ?aR (fun _ _ h => h) (fun _ h => h.elim) ?aF ?aB ?aS ?aL ?_
    (case aR => exact cr_ HO298)
    (case aB => exact (bb1_ HB GE292))
    (case aF => exact (fun k_ hk => Kd.fresh' (Kd.R_lt (ra_ HO298)) k_ hk))
    (case aO => exact (ra_ HO295))
    (case aS => exact (below_size (bb1_ HB GE292)))
    (case aL => have := LMc3.out; omega)
    intro v300 w14 ho hb hg hat
    rw [← Ny299.out] at ho
    have n0_ := Aside0.mk (blk_grown (g := gb292) (o := .cells #[.int .i64 a0_0, .int .i64 a0_1, .int .i64 a0_2, .int .i64 a0_3, .int .i64 a0_4, .bool true] 43 (0, 0)) (la_ BK292) hg (Kd.R_ne HO295.out BK292.out (by decide)))
    have n1_ := Aside0.mk (Kd.R_after (ok := (fun _ => True)) (by (with_reducible repeat (first | apply rA_ | apply rN_ | apply rD_)); exact Kd.R_mono HO298.out (fun _ hk => ⟨trivial, hk⟩)) hg hat)
    have n2_ := Aside0.mk (hb)
    have n3_ := Aside0.mk (ho)
    clear BK292
    clear HO298
    clear HB
    clear HO295
    have BK292 := n0_
    have HO298 := n1_
    have HB := n2_
    have HO301 := n3_
    clear n0_ n1_ n2_ n3_
    clear ho hb hg hat
    obtain ⟨Ao16, co16, eo16⟩ := Kd.R_slice HO301.out
    (first | subst eo16 | (injection eo16 with f1_ f2_ f3_; have f4_ := f1_.symm; have f5_ := f3_.symm; clear f1_ f2_ f3_; subst f4_; subst f5_))
    refine hK.out _ _ ⟨(blk_cell BK292.out 0).trans rfl, (blk_cell BK292.out 1).trans rfl, (blk_cell BK292.out 2).trans rfl, (blk_cell BK292.out 3).trans rfl, (blk_cell BK292.out 4).trans rfl, (blk_cell BK292.out 5).trans rfl⟩ (fun hHeld => ?_)
    clear hK K
    refine norm_ (a' := ?_) ?_ ?_
    rotate_left
    ·show Act.put _ (some 8) _ = _
     simp only [Act.put, sA_, sB_, sC_, i64_w, i32_w]
     rfl
    refine one_ (i := 6) (N := some 9) #[true, true, true, true, true, true, true, false] rfl rfl (one_of HT_.out (by kernel_rfl)) (by decide) (fun K hK => ?_)
    refine goes_ Try.func60 (by kernel_rfl) rfl #[.slice Ao16 y299.length co16, .int .i64 0, .int .i64 2] (by rfl) rfl rfl args_ ?_
    with_reducible refine (impl_allWithin.calls _ _ y299 0 2 true _ ?side1 ?side2 A4.out).mono ?_
    (case side1 => exact cr_ HO301)
    (case side2 => exact (Kd.R_reads' HO301.out).2.1)
    rintro e w17 ⟨rfl, hb⟩
    refine ⟨_, rfl, ?_⟩
    have n0_ := Aside0.mk (Kd.R_below (ra_ HO298) hb)
    have n1_ := Aside0.mk (Kd.R_below (ra_ HO301) hb)
    have n2_ := Aside0.mk (lb_ BK292 hb)
    have n3_ := Aside0.mk (below_step (bb1_ HB GE292) hb)
    clear HO298
    clear HO301
    clear BK292
    clear HB
    have HO298 := n0_
    have HO301 := n1_
    have BK292 := n2_
    have HB := n3_
    clear n0_ n1_ n2_ n3_
    (try clear hb)
    (try clear hb2)
    (try clear hk)
    (try clear hi)
    refine hK.out _ _ ⟨(blk_cell BK292.out 0).trans rfl, (blk_cell BK292.out 1).trans rfl, (blk_cell BK292.out 2).trans rfl, (blk_cell BK292.out 3).trans rfl, (blk_cell BK292.out 4).trans rfl, (blk_cell BK292.out 5).trans rfl⟩ (fun hHeld => ?_)
    clear hK K
    refine norm_ (a' := ?_) ?_ ?_
    rotate_left
    ·show Act.put _ (some 9) _ = _
     simp only [Act.put, sA_, sB_, sC_, i64_w, i32_w]
     rfl
    refine pu_ (i := 7) (N := some 10) (v := ?_) (a' := ?_) #[true, true, true, true, true, true, true, true] rfl rfl (Or.inl ⟨by rfl, ?_⟩) ?_ ?_
    rotate_left
    ·intro w'
     go_simp
     with_reducible rfl
    rotate_left
    ·simp only [Act.put, sA_, sB_, sC_, i64_w, i32_w]
     rfl
    refine done_ (done_of HT_.out (by kernel_rfl)) ?_
    have hcz18_0 := cz0_ BK292
    have hcz18_1 := cz1_ BK292
    have hcz18_2 := cz2_ BK292
    have hcz18_3 := cz3_ BK292
    have hcz18_4 : w17.cell? ⟨gb292, 4, none⟩ = some (.int .i64 a0_4) := (blk_cell BK292.out 4).trans rfl
    have hcz18_5 : w17.cell? ⟨gb292, 5, none⟩ = some (.bool true) := (blk_cell BK292.out 5).trans rfl
    have hfz18_0 := fz_ BK292 0
    have hfz18_1 := fz_ BK292 1
    have hfz18_2 := fz_ BK292 2
    have hfz18_3 := fz_ BK292 3
    have hfz18_4 := fz_ BK292 4
    have hfz18_5 := fz_ BK292 5
    try go_wp2_with (first | (go_at_call 62; (with_reducible refine (impl_Shape_maySpread.calls a0_0 a0_1 a0_2 a0_3 a0_4 true t303 _ A7.out).mono ?_); rintro e w19 ⟨rfl, hb⟩; have n0_ := Aside0.mk (Kd.R_below (ra_ HO298) hb); have n1_ := Aside0.mk (Kd.R_below (ra_ HO301) hb); have n2_ := Aside0.mk (lb_ BK292 hb); have n3_ := Aside0.mk (below_step (bb1_ HB GE292) hb); clear HO298; clear HO301; clear BK292; clear HB; have HO298 := n0_; have HO301 := n1_; have BK292 := n2_; have HB := n3_; clear n0_ n1_ n2_ n3_; (try clear hb); (try clear hb2); (try clear hk); (try clear hi)))
    go_ret
    exact ⟨by first | rfl | (simp [errW_none, errW_some] <;> rfl) | (simp [*, errW_none, errW_some] <;> rfl), bb1_ HB GE292⟩
   ·replace c6 := Bool.eq_false_iff.mpr c6
    subst c6
    have H1 : (some true) = some r := by rw [if_neg (show ¬ (false = true) by decide)] at H; exact H
    clear H
    have H := H1
    clear H1
    obtain rfl := Option.some.inj H
    go_enter Try.func41, Try.ntmps41
    try go_wp2_with (first | ((with_reducible refine gate_dst (N := 1) rfl ?_); refine box_event ?hg (N := 1) ?hd (cs := #[.int .i64 a0_0, .int .i64 a0_1, .int .i64 a0_2, .int .i64 a0_3, .int .i64 a0_4, .bool false]) (t := 43) ?hr ?_; (case hd => rfl); (case hg => rfl); (case hr => first | (go_simp; done) | (go_simp; rfl)); intro gb292 hg w20 hbox hb; have n0_ := Aside0.mk (bt_ HB hb); have n1_ := Aside0.mk (hbox); have n2_ := gz_ hg HB; have n3_ := gz_ hg HB; clear HB; have HB := n0_; have BK292 := n1_; have GW292 := n2_; have GE292 := n3_; clear n0_ n1_ n2_ n3_; clear hb hbox hg))
    have n0_ := Aside0.mk (blk_drew BK292.out)
    have n1_ := Aside0.mk (below_drew1 HB.out)
    clear BK292
    clear HB
    have BK292 := n0_
    have HB := n1_
    clear n0_ n1_
    refine start_ (n := 8) (S := fun w' => w'.cell? ⟨gb292, 0, none⟩ = some (.int .i64 a0_0) ∧ w'.cell? ⟨gb292, 1, none⟩ = some (.int .i64 a0_1) ∧ w'.cell? ⟨gb292, 2, none⟩ = some (.int .i64 a0_2) ∧ w'.cell? ⟨gb292, 3, none⟩ = some (.int .i64 a0_3) ∧ w'.cell? ⟨gb292, 4, none⟩ = some (.int .i64 a0_4) ∧ w'.cell? ⟨gb292, 5, none⟩ = some (.bool false)) (ds := []) #[false, false, false, false, false, false, false, false] (by kernel_rfl) rfl rfl ⟨(blk_cell BK292.out 0).trans rfl, (blk_cell BK292.out 1).trans rfl, (blk_cell BK292.out 2).trans rfl, (blk_cell BK292.out 3).trans rfl, (blk_cell BK292.out 4).trans rfl, (blk_cell BK292.out 5).trans rfl⟩ (fun hHeld => ?_); refine with_tabW impl_IsShape.tab1 impl_IsShape.bits1 (fun HT_ HW_ => ?_)
    generalize w20.drew = w21 at BK292 HB hHeld ⊢
    refine pu_ (i := 0) (N := some 3) (v := ?_) (a' := ?_) #[true, false, false, false, false, false, false, false] rfl rfl (Or.inl ⟨by rfl, ?_⟩) ?_ ?_
    rotate_left
    ·intro w'
     go_simp
     with_reducible rfl
    rotate_left
    ·simp only [Act.put, sA_, sB_, sC_, i64_w, i32_w]
     rfl
    refine take_ (i := 1) (N := some 4) (v := ?_) (a' := ?_) #[true, true, false, false, false, false, false, false] rfl rfl (take_ofW HT_.out HW_.out (by kernel_rfl)) (fun _ _ _ h => h) (Or.inl ⟨by rfl, ?_⟩) hHeld ?_ ?_
    rotate_left
    ·rintro w' ⟨s0, s1, s2, s3, s4, s5⟩
     go_simp
     with_reducible rfl
    rotate_left
    ·simp only [Act.put, sA_, sB_, sC_, i64_w, i32_w]
     rfl
    refine take_ (i := 3) (N := some 6) (v := ?_) (a' := ?_) #[true, true, false, true, false, false, false, false] rfl rfl (take_ofW HT_.out HW_.out (by kernel_rfl)) (fun _ _ _ h => h) (Or.inl ⟨by rfl, ?_⟩) hHeld ?_ ?_
    rotate_left
    ·rintro w' ⟨s0, s1, s2, s3, s4, s5⟩
     go_simp
     with_reducible rfl
    rotate_left
    ·simp only [Act.put, sA_, sB_, sC_, i64_w, i32_w]
     rfl
    refine join_ (σ := Value × Value) 3 #[true, true, true, true, true, false, false, false] (fun s_ => [(5, s_.1), (7, s_.2)]) (fun s_ w' => (w'.cell? ⟨gb292, 0, none⟩ = some (.int .i64 a0_0) ∧ w'.cell? ⟨gb292, 1, none⟩ = some (.int .i64 a0_1) ∧ w'.cell? ⟨gb292, 2, none⟩ = some (.int .i64 a0_2) ∧ w'.cell? ⟨gb292, 3, none⟩ = some (.int .i64 a0_3) ∧ w'.cell? ⟨gb292, 4, none⟩ = some (.int .i64 a0_4) ∧ w'.cell? ⟨gb292, 5, none⟩ = some (.bool false)) ∧ (Kd.R (Kd.int .i64) 3 w' w.heap.size (fun k_ => some k_ ≠ (s_.2 : Value).ownBlock) s_.1 y293) ∧ (Kd.R (Kd.int .i64) 3 w' w.heap.size (fun k_ => some k_ ≠ (s_.1 : Value).ownBlock) s_.2 t296) ∧ (w'.heap[gb292]? = some (.cells #[.int .i64 a0_0, .int .i64 a0_1, .int .i64 a0_2, .int .i64 a0_3, .int .i64 a0_4, .bool false] 43 (0, 0))) ∧ (Below w.heap.size w w')) ?_ ?_
    rotate_left
    ·intro hCont
     refine two_ (i := 2) (j := 4) (Ni := some 5) (Nj := some 7) #[true, true, true, true, false, false, false, false] #[true, true, false, true, true, false, false, false] rfl rfl rfl rfl (two_of HT_.out (by kernel_rfl)) (by decide) (by decide) (fun K hK => ?_) (fun K hK => ?_)
     ·skip
      refine Kd.R_lit_step (Kd.int .i64) _ 3 ?hg (N := 5) ?hd (xs := ([a0_0] : List Int)) (inner := [.int .i64 a0_0]) (ok := fun _ => True) (okp := fun _ => True) ?hr ?hp (fun _ hk => hk) trivial (Below.refl _ _) (Nat.le_refl _) (by simp) ?_; (case hd => rfl); (case hg => rfl); (case hr => first | (go_simp; done) | (go_simp; rfl)); (case hp => exact (Reps.one (show Kd.M (Kd.int .i64) _ _ _ a0_0 [.int .i64 a0_0] from rfl) (Reps.none _ _)))
      intro v294 w22 ho23 hb hg_ hnew_
      clear hg_ hnew_
      (first | rw [← Ny293.out] at ho23 | (simp only [Int.reduceToNat] at ho23; rw [← Ny293.out] at ho23))
      have n0_ := Aside0.mk (Kd.R_lower ho23 (below_size (bb1_ HB GE292)))
      have n1_ := Aside0.mk (lb_ BK292 hb)
      have n2_ := Aside0.mk (below_step (bb1_ HB GE292) hb)
      clear BK292
      clear HB
      have HO295 := n0_
      have BK292 := n1_
      have HB := n2_
      clear n0_ n1_ n2_
      clear hb ho23
      refine hK.out _ _ ⟨(blk_cell BK292.out 0).trans rfl, (blk_cell BK292.out 1).trans rfl, (blk_cell BK292.out 2).trans rfl, (blk_cell BK292.out 3).trans rfl, (blk_cell BK292.out 4).trans rfl, (blk_cell BK292.out 5).trans rfl⟩ (fun hHeld => ?_)
      clear hK K
      refine norm_ (a' := ?_) ?_ ?_
      rotate_left
      ·show Act.put _ (some 5) _ = _
       simp only [Act.put, sA_, sB_, sC_, i64_w, i32_w]
       rfl
      refine one_ (i := 4) (N := some 7) #[true, true, true, true, true, false, false, false] rfl rfl (one_of HT_.out (by kernel_rfl)) (by decide) (fun K hK => ?_)
      refine goes_ Try.func61 (by kernel_rfl) rfl #[.agg #[.int .i64 a0_0, .int .i64 a0_1, .int .i64 a0_2, .int .i64 a0_3, .int .i64 a0_4, .bool false]] (by rfl) rfl rfl args_ ?_
      with_reducible refine (impl_Shape_bends.calls a0_0 a0_1 a0_2 a0_3 a0_4 false t296 _ A2.out).mono ?_
      rintro e w24 ⟨v297, rfl, ho0, hb⟩
      refine ⟨_, rfl, ?_⟩
      have n0_ := Aside0.mk (Kd.R_elder' (ra_ HO295) (Kd.R_base ho0) hb)
      have n1_ := Aside0.mk (Kd.R_lower (Kd.R_new' ho0 (Kd.R_lt (ra_ HO295))) (below_size (bb1_ HB GE292)))
      have n2_ := Aside0.mk (lb_ BK292 hb)
      have n3_ := Aside0.mk (below_step (bb1_ HB GE292) hb)
      clear HO295
      clear BK292
      clear HB
      have HO295 := n0_
      have HO298 := n1_
      have BK292 := n2_
      have HB := n3_
      clear n0_ n1_ n2_ n3_
      (try clear hb)
      (try clear hb2)
      (try clear hk)
      (try clear hi)
      (try clear ho0)
      refine hK.out _ _ ⟨(blk_cell BK292.out 0).trans rfl, (blk_cell BK292.out 1).trans rfl, (blk_cell BK292.out 2).trans rfl, (blk_cell BK292.out 3).trans rfl, (blk_cell BK292.out 4).trans rfl, (blk_cell BK292.out 5).trans rfl⟩ (fun hHeld => ?_)
      clear hK K
      refine norm_ (a' := ?_) ?_ ?_
      rotate_left
      ·show Act.put _ (some 7) _ = _
       simp only [Act.put, sA_, sB_, sC_, i64_w, i32_w]
       rfl
      exact norm_ (by simp only [putAll, Act.put, List.setIfInBounds_toArray, List.set_cons_zero, List.set_cons_succ]) (hCont (v294, v297) _ ⟨hHeld, (by (with_reducible repeat (first | apply rA_ | apply rN_ | apply rD_)); exact Kd.R_mono HO295.out (fun _ hk => hk.2)), (by (with_reducible repeat (first | apply rA_ | apply rN_ | apply rD_)); exact Kd.R_mono HO298.out (fun _ hk => hk.2)), (la_ BK292), (bb1_ HB GE292)⟩)
     ·skip
      refine goes_ Try.func61 (by kernel_rfl) rfl #[.agg #[.int .i64 a0_0, .int .i64 a0_1, .int .i64 a0_2, .int .i64 a0_3, .int .i64 a0_4, .bool false]] (by rfl) rfl rfl args_ ?_
      with_reducible refine (impl_Shape_bends.calls a0_0 a0_1 a0_2 a0_3 a0_4 false t296 _ A2.out).mono ?_
      rintro e w22 ⟨v297, rfl, ho0, hb⟩
      refine ⟨_, rfl, ?_⟩
      have n0_ := Aside0.mk (Kd.R_lower ho0 (below_size (bb1_ HB GE292)))
      have n1_ := Aside0.mk (lb_ BK292 hb)
      have n2_ := Aside0.mk (below_step (bb1_ HB GE292) hb)
      clear BK292
      clear HB
      have HO298 := n0_
      have BK292 := n1_
      have HB := n2_
      clear n0_ n1_ n2_
      (try clear hb)
      (try clear hb2)
      (try clear hk)
      (try clear hi)
      (try clear ho0)
      refine hK.out _ _ ⟨(blk_cell BK292.out 0).trans rfl, (blk_cell BK292.out 1).trans rfl, (blk_cell BK292.out 2).trans rfl, (blk_cell BK292.out 3).trans rfl, (blk_cell BK292.out 4).trans rfl, (blk_cell BK292.out 5).trans rfl⟩ (fun hHeld => ?_)
      clear hK K
      refine norm_ (a' := ?_) ?_ ?_
      rotate_left
      ·show Act.put _ (some 7) _ = _
       simp only [Act.put, sA_, sB_, sC_, i64_w, i32_w]
       rfl
      refine one_ (i := 2) (N := some 5) #[true, true, true, true, true, false, false, false] rfl rfl (one_of HT_.out (by kernel_rfl)) (by decide) (fun K hK => ?_)
      refine Kd.R_lit_step (Kd.int .i64) _ 3 ?hg (N := 5) ?hd (xs := ([a0_0] : List Int)) (inner := [.int .i64 a0_0]) (ok := fun _ => True) (okp := fun _ => True) ?hr ?hp (fun _ hk => hk) trivial (Below.refl _ _) (Nat.le_refl _) (by simp) ?_; (case hd => rfl); (case hg => rfl); (case hr => first | (go_simp; done) | (go_simp; rfl)); (case hp => exact (Reps.one (show Kd.M (Kd.int .i64) _ _ _ a0_0 [.int .i64 a0_0] from rfl) (Reps.none _ _)))
      intro v294 w23 ho24 hb hg_ hnew_
      clear hg_ hnew_
      (first | rw [← Ny293.out] at ho24 | (simp only [Int.reduceToNat] at ho24; rw [← Ny293.out] at ho24))
      have n0_ := Aside0.mk (Kd.R_elder' (ra_ HO298) (Kd.R_base ho24) hb)
      have n1_ := Aside0.mk (Kd.R_lower (Kd.R_new' ho24 (Kd.R_lt (ra_ HO298))) (below_size (bb1_ HB GE292)))
      have n2_ := Aside0.mk (lb_ BK292 hb)
      have n3_ := Aside0.mk (below_step (bb1_ HB GE292) hb)
      clear HO298
      clear BK292
      clear HB
      have HO298 := n0_
      have HO295 := n1_
      have BK292 := n2_
      have HB := n3_
      clear n0_ n1_ n2_ n3_
      clear hb ho24
      refine hK.out _ _ ⟨(blk_cell BK292.out 0).trans rfl, (blk_cell BK292.out 1).trans rfl, (blk_cell BK292.out 2).trans rfl, (blk_cell BK292.out 3).trans rfl, (blk_cell BK292.out 4).trans rfl, (blk_cell BK292.out 5).trans rfl⟩ (fun hHeld => ?_)
      clear hK K
      refine norm_ (a' := ?_) ?_ ?_
      rotate_left
      ·show Act.put _ (some 5) _ = _
       simp only [Act.put, sA_, sB_, sC_, i64_w, i32_w]
       rfl
      exact norm_ (by simp only [putAll, Act.put, List.setIfInBounds_toArray, List.set_cons_zero, List.set_cons_succ]) (hCont (v294, v297) _ ⟨hHeld, (by (with_reducible repeat (first | apply rA_ | apply rN_ | apply rD_)); exact Kd.R_mono HO295.out (fun _ hk => hk.2)), (by (with_reducible repeat (first | apply rA_ | apply rN_ | apply rD_)); exact Kd.R_mono HO298.out (fun _ hk => hk.2)), (la_ BK292), (bb1_ HB GE292)⟩)
    rintro ⟨v294, v297⟩ w25 ⟨hS_, h0_, h1_, h2_, h3_⟩
    have n0_ : Aside0 (Kd.R (Kd.int .i64) 3 w25 w.heap.size (fun k_ => some k_ ≠ (v297 : Value).ownBlock) v294 y293) := ⟨h0_⟩
    have n1_ : Aside0 (Kd.R (Kd.int .i64) 3 w25 w.heap.size (fun k_ => some k_ ≠ (v294 : Value).ownBlock) v297 t296) := ⟨h1_⟩
    have n2_ : Aside0 (w25.heap[gb292]? = some (.cells #[.int .i64 a0_0, .int .i64 a0_1, .int .i64 a0_2, .int .i64 a0_3, .int .i64 a0_4, .bool false] 43 (0, 0))) := ⟨h2_⟩
    have n3_ : Aside0 (Below w.heap.size w w25) := ⟨h3_⟩
    clear BK292
    clear HB
    clear h0_ h1_ h2_ h3_
    have HO295 := n0_
    have HO298 := n1_
    have BK292 := n2_
    have HB := n3_
    clear n0_ n1_ n2_ n3_
    have hHeld : w25.cell? ⟨gb292, 0, none⟩ = some (.int .i64 a0_0) ∧ w25.cell? ⟨gb292, 1, none⟩ = some (.int .i64 a0_1) ∧ w25.cell? ⟨gb292, 2, none⟩ = some (.int .i64 a0_2) ∧ w25.cell? ⟨gb292, 3, none⟩ = some (.int .i64 a0_3) ∧ w25.cell? ⟨gb292, 4, none⟩ = some (.int .i64 a0_4) ∧ w25.cell? ⟨gb292, 5, none⟩ = some (.bool false) := hS_
    obtain ⟨Ao27, co27, eo27⟩ := Kd.R_slice HO298.out
    (first | subst eo27 | (injection eo27 with f1_ f2_ f3_; have f4_ := f1_.symm; have f5_ := f3_.symm; clear f1_ f2_ f3_; subst f4_; subst f5_))
    refine norm_ (a' := ?_) ?_ ?_
    rotate_left
    ·simp only [putAll, Act.put, List.setIfInBounds_toArray, List.set_cons_zero, List.set_cons_succ]
     rfl
    refine one_ (i := 5) (N := some 8) #[true, true, true, true, true, true, false, false] rfl rfl (one_of HT_.out (by kernel_rfl)) (by decide) (fun K hK => ?_)
    refine Kd.R_append_rows_step (Kd.int .i64) (w0 := w) w.heap.size (by rfl) (.tmp 5) (.tmp 7) 64 3 (.int .i64 0) 8 rfl Try.underlying64 info3 rfl (by decide) (by omega) v294 y293 t296 _ _ _ (fun k_ => some k_ ≠ (.slice Ao27 t296.length co27 : Value).ownBlock) (fun _ => False) rfl rfl ?aO ?aR (fun _ _ h => h) (fun _ h => h.elim) ?aF ?aB ?aS ?aL ?_
    (case aR => exact cr_ HO298)
    (case aB => exact (bb1_ HB GE292))
    (case aF => exact (fun k_ hk => Kd.fresh' (Kd.R_lt (ra_ HO298)) k_ hk))
    (case aO => exact (ra_ HO295))
    (case aS => exact (below_size (bb1_ HB GE292)))
    (case aL => have := LMc3.out; omega)
    intro v300 w26 ho hb hg hat
    rw [← Ny299.out] at ho
    have n0_ := Aside0.mk (blk_grown (g := gb292) (o := .cells #[.int .i64 a0_0, .int .i64 a0_1, .int .i64 a0_2, .int .i64 a0_3, .int .i64 a0_4, .bool false] 43 (0, 0)) (la_ BK292) hg (Kd.R_ne HO295.out BK292.out (by decide)))
    have n1_ := Aside0.mk (Kd.R_after (ok := (fun _ => True)) (by (with_reducible repeat (first | apply rA_ | apply rN_ | apply rD_)); exact Kd.R_mono HO298.out (fun _ hk => ⟨trivial, hk⟩)) hg hat)
    have n2_ := Aside0.mk (hb)
    have n3_ := Aside0.mk (ho)
    clear BK292
    clear HO298
    clear HB
    clear HO295
    have BK292 := n0_
    have HO298 := n1_
    have HB := n2_
    have HO301 := n3_
    clear n0_ n1_ n2_ n3_
    clear ho hb hg hat
    obtain ⟨Ao28, co28, eo28⟩ := Kd.R_slice HO301.out
    (first | subst eo28 | (injection eo28 with f1_ f2_ f3_; have f4_ := f1_.symm; have f5_ := f3_.symm; clear f1_ f2_ f3_; subst f4_; subst f5_))
    refine hK.out _ _ ⟨(blk_cell BK292.out 0).trans rfl, (blk_cell BK292.out 1).trans rfl, (blk_cell BK292.out 2).trans rfl, (blk_cell BK292.out 3).trans rfl, (blk_cell BK292.out 4).trans rfl, (blk_cell BK292.out 5).trans rfl⟩ (fun hHeld => ?_)
    clear hK K
    refine norm_ (a' := ?_) ?_ ?_
    rotate_left
    ·show Act.put _ (some 8) _ = _
     simp only [Act.put, sA_, sB_, sC_, i64_w, i32_w]
     rfl
    refine one_ (i := 6) (N := some 9) #[true, true, true, true, true, true, true, false] rfl rfl (one_of HT_.out (by kernel_rfl)) (by decide) (fun K hK => ?_)
    refine goes_ Try.func60 (by kernel_rfl) rfl #[.slice Ao28 y299.length co28, .int .i64 0, .int .i64 2] (by rfl) rfl rfl args_ ?_
    with_reducible refine (impl_allWithin.calls _ _ y299 0 2 true _ ?side1 ?side2 A4.out).mono ?_
    (case side1 => exact cr_ HO301)
    (case side2 => exact (Kd.R_reads' HO301.out).2.1)
    rintro e w29 ⟨rfl, hb⟩
    refine ⟨_, rfl, ?_⟩
    have n0_ := Aside0.mk (Kd.R_below (ra_ HO298) hb)
    have n1_ := Aside0.mk (Kd.R_below (ra_ HO301) hb)
    have n2_ := Aside0.mk (lb_ BK292 hb)
    have n3_ := Aside0.mk (below_step (bb1_ HB GE292) hb)
    clear HO298
    clear HO301
    clear BK292
    clear HB
    have HO298 := n0_
    have HO301 := n1_
    have BK292 := n2_
    have HB := n3_
    clear n0_ n1_ n2_ n3_
    (try clear hb)
    (try clear hb2)
    (try clear hk)
    (try clear hi)
    refine hK.out _ _ ⟨(blk_cell BK292.out 0).trans rfl, (blk_cell BK292.out 1).trans rfl, (blk_cell BK292.out 2).trans rfl, (blk_cell BK292.out 3).trans rfl, (blk_cell BK292.out 4).trans rfl, (blk_cell BK292.out 5).trans rfl⟩ (fun hHeld => ?_)
    clear hK K
    refine norm_ (a' := ?_) ?_ ?_
    rotate_left
    ·show Act.put _ (some 9) _ = _
     simp only [Act.put, sA_, sB_, sC_, i64_w, i32_w]
     rfl
    refine pu_ (i := 7) (N := some 10) (v := ?_) (a' := ?_) #[true, true, true, true, true, true, true, true] rfl rfl (Or.inl ⟨by rfl, ?_⟩) ?_ ?_
    rotate_left
    ·intro w'
     go_simp
     with_reducible rfl
    rotate_left
    ·simp only [Act.put, sA_, sB_, sC_, i64_w, i32_w]
     rfl
    refine done_ (done_of HT_.out (by kernel_rfl)) ?_
    have hcz30_0 := cz0_ BK292
    have hcz30_1 := cz1_ BK292
    have hcz30_2 := cz2_ BK292
    have hcz30_3 := cz3_ BK292
    have hcz30_4 : w29.cell? ⟨gb292, 4, none⟩ = some (.int .i64 a0_4) := (blk_cell BK292.out 4).trans rfl
    have hcz30_5 : w29.cell? ⟨gb292, 5, none⟩ = some (.bool false) := (blk_cell BK292.out 5).trans rfl
    have hfz30_0 := fz_ BK292 0
    have hfz30_1 := fz_ BK292 1
    have hfz30_2 := fz_ BK292 2
    have hfz30_3 := fz_ BK292 3
    have hfz30_4 := fz_ BK292 4
    have hfz30_5 := fz_ BK292 5
    try go_wp2
    go_ret
    exact ⟨by first | rfl | (simp [errW_none, errW_some] <;> rfl) | (simp [*, errW_none, errW_some] <;> rfl), bb1_ HB GE292⟩
  ·replace c5 := Bool.eq_false_iff.mpr c5
   subst c5
   have H1 : (some false) = some r := by rw [if_neg (show ¬ (false = true) by decide)] at H; exact H
   clear H
   have H := H1
   clear H1
   obtain rfl := Option.some.inj H
   go_enter Try.func41, Try.ntmps41
   try go_wp2_with (first | ((with_reducible refine gate_dst (N := 1) rfl ?_); refine box_event ?hg (N := 1) ?hd (cs := #[.int .i64 a0_0, .int .i64 a0_1, .int .i64 a0_2, .int .i64 a0_3, .int .i64 a0_4, .bool a0_5]) (t := 43) ?hr ?_; (case hd => rfl); (case hg => rfl); (case hr => first | (go_simp; done) | (go_simp; rfl)); intro gb292 hg w31 hbox hb; have n0_ := Aside0.mk (bt_ HB hb); have n1_ := Aside0.mk (hbox); have n2_ := gz_ hg HB; have n3_ := gz_ hg HB; clear HB; have HB := n0_; have BK292 := n1_; have GW292 := n2_; have GE292 := n3_; clear n0_ n1_ n2_ n3_; clear hb hbox hg))
   have n0_ := Aside0.mk (blk_drew BK292.out)
   have n1_ := Aside0.mk (below_drew1 HB.out)
   clear BK292
   clear HB
   have BK292 := n0_
   have HB := n1_
   clear n0_ n1_
   refine start_ (n := 8) (S := fun w' => w'.cell? ⟨gb292, 0, none⟩ = some (.int .i64 a0_0) ∧ w'.cell? ⟨gb292, 1, none⟩ = some (.int .i64 a0_1) ∧ w'.cell? ⟨gb292, 2, none⟩ = some (.int .i64 a0_2) ∧ w'.cell? ⟨gb292, 3, none⟩ = some (.int .i64 a0_3) ∧ w'.cell? ⟨gb292, 4, none⟩ = some (.int .i64 a0_4) ∧ w'.cell? ⟨gb292, 5, none⟩ = some (.bool a0_5)) (ds := []) #[false, false, false, false, false, false, false, false] (by kernel_rfl) rfl rfl ⟨(blk_cell BK292.out 0).trans rfl, (blk_cell BK292.out 1).trans rfl, (blk_cell BK292.out 2).trans rfl, (blk_cell BK292.out 3).trans rfl, (blk_cell BK292.out 4).trans rfl, (blk_cell BK292.out 5).trans rfl⟩ (fun hHeld => ?_); refine with_tabW impl_IsShape.tab1 impl_IsShape.bits1 (fun HT_ HW_ => ?_)
   generalize w31.drew = w32 at BK292 HB hHeld ⊢
   refine pu_ (i := 0) (N := some 3) (v := ?_) (a' := ?_) #[true, false, false, false, false, false, false, false] rfl rfl (Or.inl ⟨by rfl, ?_⟩) ?_ ?_
   rotate_left
   ·intro w'
    go_simp
    with_reducible rfl
   rotate_left
   ·simp only [Act.put, sA_, sB_, sC_, i64_w, i32_w]
    rfl
   refine take_ (i := 1) (N := some 4) (v := ?_) (a' := ?_) #[true, true, false, false, false, false, false, false] rfl rfl (take_ofW HT_.out HW_.out (by kernel_rfl)) (fun _ _ _ h => h) (Or.inl ⟨by rfl, ?_⟩) hHeld ?_ ?_
   rotate_left
   ·rintro w' ⟨s0, s1, s2, s3, s4, s5⟩
    go_simp
    with_reducible rfl
   rotate_left
   ·simp only [Act.put, sA_, sB_, sC_, i64_w, i32_w]
    rfl
   refine take_ (i := 3) (N := some 6) (v := ?_) (a' := ?_) #[true, true, false, true, false, false, false, false] rfl rfl (take_ofW HT_.out HW_.out (by kernel_rfl)) (fun _ _ _ h => h) (Or.inl ⟨by rfl, ?_⟩) hHeld ?_ ?_
   rotate_left
   ·rintro w' ⟨s0, s1, s2, s3, s4, s5⟩
    go_simp
    with_reducible rfl
   rotate_left
   ·simp only [Act.put, sA_, sB_, sC_, i64_w, i32_w]
    rfl
   refine join_ (σ := Value × Value) 3 #[true, true, true, true, true, false, false, false] (fun s_ => [(5, s_.1), (7, s_.2)]) (fun s_ w' => (w'.cell? ⟨gb292, 0, none⟩ = some (.int .i64 a0_0) ∧ w'.cell? ⟨gb292, 1, none⟩ = some (.int .i64 a0_1) ∧ w'.cell? ⟨gb292, 2, none⟩ = some (.int .i64 a0_2) ∧ w'.cell? ⟨gb292, 3, none⟩ = some (.int .i64 a0_3) ∧ w'.cell? ⟨gb292, 4, none⟩ = some (.int .i64 a0_4) ∧ w'.cell? ⟨gb292, 5, none⟩ = some (.bool a0_5)) ∧ (Kd.R (Kd.int .i64) 3 w' w.heap.size (fun k_ => some k_ ≠ (s_.2 : Value).ownBlock) s_.1 y293) ∧ (Kd.R (Kd.int .i64) 3 w' w.heap.size (fun k_ => some k_ ≠ (s_.1 : Value).ownBlock) s_.2 t296) ∧ (w'.heap[gb292]? = some (.cells #[.int .i64 a0_0, .int .i64 a0_1, .int .i64 a0_2, .int .i64 a0_3, .int .i64 a0_4, .bool a0_5] 43 (0, 0))) ∧ (Below w.heap.size w w')) ?_ ?_
   rotate_left
   ·intro hCont
    refine two_ (i := 2) (j := 4) (Ni := some 5) (Nj := some 7) #[true, true, true, true, false, false, false, false] #[true, true, false, true, true, false, false, false] rfl rfl rfl rfl (two_of HT_.out (by kernel_rfl)) (by decide) (by decide) (fun K hK => ?_) (fun K hK => ?_)
    ·skip
     refine Kd.R_lit_step (Kd.int .i64) _ 3 ?hg (N := 5) ?hd (xs := ([a0_0] : List Int)) (inner := [.int .i64 a0_0]) (ok := fun _ => True) (okp := fun _ => True) ?hr ?hp (fun _ hk => hk) trivial (Below.refl _ _) (Nat.le_refl _) (by simp) ?_; (case hd => rfl); (case hg => rfl); (case hr => first | (go_simp; done) | (go_simp; rfl)); (case hp => exact (Reps.one (show Kd.M (Kd.int .i64) _ _ _ a0_0 [.int .i64 a0_0] from rfl) (Reps.none _ _)))
     intro v294 w33 ho34 hb hg_ hnew_
     clear hg_ hnew_
     (first | rw [← Ny293.out] at ho34 | (simp only [Int.reduceToNat] at ho34; rw [← Ny293.out] at ho34))
     have n0_ := Aside0.mk (Kd.R_lower ho34 (below_size (bb1_ HB GE292)))
     have n1_ := Aside0.mk (lb_ BK292 hb)
     have n2_ := Aside0.mk (below_step (bb1_ HB GE292) hb)
     clear BK292
     clear HB
     have HO295 := n0_
     have BK292 := n1_
     have HB := n2_
     clear n0_ n1_ n2_
     clear hb ho34
     refine hK.out _ _ ⟨(blk_cell BK292.out 0).trans rfl, (blk_cell BK292.out 1).trans rfl, (blk_cell BK292.out 2).trans rfl, (blk_cell BK292.out 3).trans rfl, (blk_cell BK292.out 4).trans rfl, (blk_cell BK292.out 5).trans rfl⟩ (fun hHeld => ?_)
     clear hK K
     refine norm_ (a' := ?_) ?_ ?_
     rotate_left
     ·show Act.put _ (some 5) _ = _
      simp only [Act.put, sA_, sB_, sC_, i64_w, i32_w]
      rfl
     refine one_ (i := 4) (N := some 7) #[true, true, true, true, true, false, false, false] rfl rfl (one_of HT_.out (by kernel_rfl)) (by decide) (fun K hK => ?_)
     refine goes_ Try.func61 (by kernel_rfl) rfl #[.agg #[.int .i64 a0_0, .int .i64 a0_1, .int .i64 a0_2, .int .i64 a0_3, .int .i64 a0_4, .bool a0_5]] (by rfl) rfl rfl args_ ?_
     with_reducible refine (impl_Shape_bends.calls a0_0 a0_1 a0_2 a0_3 a0_4 a0_5 t296 _ A2.out).mono ?_
     rintro e w35 ⟨v297, rfl, ho0, hb⟩
     refine ⟨_, rfl, ?_⟩
     have n0_ := Aside0.mk (Kd.R_elder' (ra_ HO295) (Kd.R_base ho0) hb)
     have n1_ := Aside0.mk (Kd.R_lower (Kd.R_new' ho0 (Kd.R_lt (ra_ HO295))) (below_size (bb1_ HB GE292)))
     have n2_ := Aside0.mk (lb_ BK292 hb)
     have n3_ := Aside0.mk (below_step (bb1_ HB GE292) hb)
     clear HO295
     clear BK292
     clear HB
     have HO295 := n0_
     have HO298 := n1_
     have BK292 := n2_
     have HB := n3_
     clear n0_ n1_ n2_ n3_
     (try clear hb)
     (try clear hb2)
     (try clear hk)
     (try clear hi)
     (try clear ho0)
     refine hK.out _ _ ⟨(blk_cell BK292.out 0).trans rfl, (blk_cell BK292.out 1).trans rfl, (blk_cell BK292.out 2).trans rfl, (blk_cell BK292.out 3).trans rfl, (blk_cell BK292.out 4).trans rfl, (blk_cell BK292.out 5).trans rfl⟩ (fun hHeld => ?_)
     clear hK K
     refine norm_ (a' := ?_) ?_ ?_
     rotate_left
     ·show Act.put _ (some 7) _ = _
      simp only [Act.put, sA_, sB_, sC_, i64_w, i32_w]
      rfl
     exact norm_ (by simp only [putAll, Act.put, List.setIfInBounds_toArray, List.set_cons_zero, List.set_cons_succ]) (hCont (v294, v297) _ ⟨hHeld, (by (with_reducible repeat (first | apply rA_ | apply rN_ | apply rD_)); exact Kd.R_mono HO295.out (fun _ hk => hk.2)), (by (with_reducible repeat (first | apply rA_ | apply rN_ | apply rD_)); exact Kd.R_mono HO298.out (fun _ hk => hk.2)), (la_ BK292), (bb1_ HB GE292)⟩)
    ·skip
     refine goes_ Try.func61 (by kernel_rfl) rfl #[.agg #[.int .i64 a0_0, .int .i64 a0_1, .int .i64 a0_2, .int .i64 a0_3, .int .i64 a0_4, .bool a0_5]] (by rfl) rfl rfl args_ ?_
     with_reducible refine (impl_Shape_bends.calls a0_0 a0_1 a0_2 a0_3 a0_4 a0_5 t296 _ A2.out).mono ?_
     rintro e w33 ⟨v297, rfl, ho0, hb⟩
     refine ⟨_, rfl, ?_⟩
     have n0_ := Aside0.mk (Kd.R_lower ho0 (below_size (bb1_ HB GE292)))
     have n1_ := Aside0.mk (lb_ BK292 hb)
     have n2_ := Aside0.mk (below_step (bb1_ HB GE292) hb)
     clear BK292
     clear HB
     have HO298 := n0_
     have BK292 := n1_
     have HB := n2_
     clear n0_ n1_ n2_
     (try clear hb)
     (try clear hb2)
     (try clear hk)
     (try clear hi)
     (try clear ho0)
     refine hK.out _ _ ⟨(blk_cell BK292.out 0).trans rfl, (blk_cell BK292.out 1).trans rfl, (blk_cell BK292.out 2).trans rfl, (blk_cell BK292.out 3).trans rfl, (blk_cell BK292.out 4).trans rfl, (blk_cell BK292.out 5).trans rfl⟩ (fun hHeld => ?_)
     clear hK K
     refine norm_ (a' := ?_) ?_ ?_
     rotate_left
     ·show Act.put _ (some 7) _ = _
      simp only [Act.put, sA_, sB_, sC_, i64_w, i32_w]
      rfl
     refine one_ (i := 2) (N := some 5) #[true, true, true, true, true, false, false, false] rfl rfl (one_of HT_.out (by kernel_rfl)) (by decide) (fun K hK => ?_)
     refine Kd.R_lit_step (Kd.int .i64) _ 3 ?hg (N := 5) ?hd (xs := ([a0_0] : List Int)) (inner := [.int .i64 a0_0]) (ok := fun _ => True) (okp := fun _ => True) ?hr ?hp (fun _ hk => hk) trivial (Below.refl _ _) (Nat.le_refl _) (by simp) ?_; (case hd => rfl); (case hg => rfl); (case hr => first | (go_simp; done) | (go_simp; rfl)); (case hp => exact (Reps.one (show Kd.M (Kd.int .i64) _ _ _ a0_0 [.int .i64 a0_0] from rfl) (Reps.none _ _)))
     intro v294 w34 ho35 hb hg_ hnew_
     clear hg_ hnew_
     (first | rw [← Ny293.out] at ho35 | (simp only [Int.reduceToNat] at ho35; rw [← Ny293.out] at ho35))
     have n0_ := Aside0.mk (Kd.R_elder' (ra_ HO298) (Kd.R_base ho35) hb)
     have n1_ := Aside0.mk (Kd.R_lower (Kd.R_new' ho35 (Kd.R_lt (ra_ HO298))) (below_size (bb1_ HB GE292)))
     have n2_ := Aside0.mk (lb_ BK292 hb)
     have n3_ := Aside0.mk (below_step (bb1_ HB GE292) hb)
     clear HO298
     clear BK292
     clear HB
     have HO298 := n0_
     have HO295 := n1_
     have BK292 := n2_
     have HB := n3_
     clear n0_ n1_ n2_ n3_
     clear hb ho35
     refine hK.out _ _ ⟨(blk_cell BK292.out 0).trans rfl, (blk_cell BK292.out 1).trans rfl, (blk_cell BK292.out 2).trans rfl, (blk_cell BK292.out 3).trans rfl, (blk_cell BK292.out 4).trans rfl, (blk_cell BK292.out 5).trans rfl⟩ (fun hHeld => ?_)
     clear hK K
     refine norm_ (a' := ?_) ?_ ?_
     rotate_left
     ·show Act.put _ (some 5) _ = _
      simp only [Act.put, sA_, sB_, sC_, i64_w, i32_w]
      rfl
     exact norm_ (by simp only [putAll, Act.put, List.setIfInBounds_toArray, List.set_cons_zero, List.set_cons_succ]) (hCont (v294, v297) _ ⟨hHeld, (by (with_reducible repeat (first | apply rA_ | apply rN_ | apply rD_)); exact Kd.R_mono HO295.out (fun _ hk => hk.2)), (by (with_reducible repeat (first | apply rA_ | apply rN_ | apply rD_)); exact Kd.R_mono HO298.out (fun _ hk => hk.2)), (la_ BK292), (bb1_ HB GE292)⟩)
   rintro ⟨v294, v297⟩ w36 ⟨hS_, h0_, h1_, h2_, h3_⟩
   have n0_ : Aside0 (Kd.R (Kd.int .i64) 3 w36 w.heap.size (fun k_ => some k_ ≠ (v297 : Value).ownBlock) v294 y293) := ⟨h0_⟩
   have n1_ : Aside0 (Kd.R (Kd.int .i64) 3 w36 w.heap.size (fun k_ => some k_ ≠ (v294 : Value).ownBlock) v297 t296) := ⟨h1_⟩
   have n2_ : Aside0 (w36.heap[gb292]? = some (.cells #[.int .i64 a0_0, .int .i64 a0_1, .int .i64 a0_2, .int .i64 a0_3, .int .i64 a0_4, .bool a0_5] 43 (0, 0))) := ⟨h2_⟩
   have n3_ : Aside0 (Below w.heap.size w w36) := ⟨h3_⟩
   clear BK292
   clear HB
   clear h0_ h1_ h2_ h3_
   have HO295 := n0_
   have HO298 := n1_
   have BK292 := n2_
   have HB := n3_
   clear n0_ n1_ n2_ n3_
   have hHeld : w36.cell? ⟨gb292, 0, none⟩ = some (.int .i64 a0_0) ∧ w36.cell? ⟨gb292, 1, none⟩ = some (.int .i64 a0_1) ∧ w36.cell? ⟨gb292, 2, none⟩ = some (.int .i64 a0_2) ∧ w36.cell? ⟨gb292, 3, none⟩ = some (.int .i64 a0_3) ∧ w36.cell? ⟨gb292, 4, none⟩ = some (.int .i64 a0_4) ∧ w36.cell? ⟨gb292, 5, none⟩ = some (.bool a0_5) := hS_
   obtain ⟨Ao38, co38, eo38⟩ := Kd.R_slice HO298.out
   (first | subst eo38 | (injection eo38 with f1_ f2_ f3_; have f4_ := f1_.symm; have f5_ := f3_.symm; clear f1_ f2_ f3_; subst f4_; subst f5_))
   refine norm_ (a' := ?_) ?_ ?_
   rotate_left
   ·simp only [putAll, Act.put, List.setIfInBounds_toArray, List.set_cons_zero, List.set_cons_succ]
    rfl
   refine one_ (i := 5) (N := some 8) #[true, true, true, true, true, true, false, false] rfl rfl (one_of HT_.out (by kernel_rfl)) (by decide) (fun K hK => ?_)
   refine Kd.R_append_rows_step (Kd.int .i64) (w0 := w) w.heap.size (by rfl) (.tmp 5) (.tmp 7) 64 3 (.int .i64 0) 8 rfl Try.underlying64 info3 rfl (by decide) (by omega) v294 y293 t296 _ _ _ (fun k_ => some k_ ≠ (.slice Ao38 t296.length co38 : Value).ownBlock) (fun _ => False) rfl rfl ?aO ?aR (fun _ _ h => h) (fun _ h => h.elim) ?aF ?aB ?aS ?aL ?_
   (case aR => exact cr_ HO298)
   (case aB => exact (bb1_ HB GE292))
   (case aF => exact (fun k_ hk => Kd.fresh' (Kd.R_lt (ra_ HO298)) k_ hk))
   (case aO => exact (ra_ HO295))
   (case aS => exact (below_size (bb1_ HB GE292)))
   (case aL => have := LMc3.out; omega)
   intro v300 w37 ho hb hg hat
   rw [← Ny299.out] at ho
   have n0_ := Aside0.mk (blk_grown (g := gb292) (o := .cells #[.int .i64 a0_0, .int .i64 a0_1, .int .i64 a0_2, .int .i64 a0_3, .int .i64 a0_4, .bool a0_5] 43 (0, 0)) (la_ BK292) hg (Kd.R_ne HO295.out BK292.out (by decide)))
   have n1_ := Aside0.mk (Kd.R_after (ok := (fun _ => True)) (by (with_reducible repeat (first | apply rA_ | apply rN_ | apply rD_)); exact Kd.R_mono HO298.out (fun _ hk => ⟨trivial, hk⟩)) hg hat)
   have n2_ := Aside0.mk (hb)
   have n3_ := Aside0.mk (ho)
   clear BK292
   clear HO298
   clear HB
   clear HO295
   have BK292 := n0_
   have HO298 := n1_
   have HB := n2_
   have HO301 := n3_
   clear n0_ n1_ n2_ n3_
   clear ho hb hg hat
   obtain ⟨Ao39, co39, eo39⟩ := Kd.R_slice HO301.out
   (first | subst eo39 | (injection eo39 with f1_ f2_ f3_; have f4_ := f1_.symm; have f5_ := f3_.symm; clear f1_ f2_ f3_; subst f4_; subst f5_))
   refine hK.out _ _ ⟨(blk_cell BK292.out 0).trans rfl, (blk_cell BK292.out 1).trans rfl, (blk_cell BK292.out 2).trans rfl, (blk_cell BK292.out 3).trans rfl, (blk_cell BK292.out 4).trans rfl, (blk_cell BK292.out 5).trans rfl⟩ (fun hHeld => ?_)
   clear hK K
   refine norm_ (a' := ?_) ?_ ?_
   rotate_left
   ·show Act.put _ (some 8) _ = _
    simp only [Act.put, sA_, sB_, sC_, i64_w, i32_w]
    rfl
   refine one_ (i := 6) (N := some 9) #[true, true, true, true, true, true, true, false] rfl rfl (one_of HT_.out (by kernel_rfl)) (by decide) (fun K hK => ?_)
   refine goes_ Try.func60 (by kernel_rfl) rfl #[.slice Ao39 y299.length co39, .int .i64 0, .int .i64 2] (by rfl) rfl rfl args_ ?_
   with_reducible refine (impl_allWithin.calls _ _ y299 0 2 false _ ?side1 ?side2 A4.out).mono ?_
   (case side1 => exact cr_ HO301)
   (case side2 => exact (Kd.R_reads' HO301.out).2.1)
   rintro e w40 ⟨rfl, hb⟩
   refine ⟨_, rfl, ?_⟩
   have n0_ := Aside0.mk (Kd.R_below (ra_ HO298) hb)
   have n1_ := Aside0.mk (Kd.R_below (ra_ HO301) hb)
   have n2_ := Aside0.mk (lb_ BK292 hb)
   have n3_ := Aside0.mk (below_step (bb1_ HB GE292) hb)
   clear HO298
   clear HO301
   clear BK292
   clear HB
   have HO298 := n0_
   have HO301 := n1_
   have BK292 := n2_
   have HB := n3_
   clear n0_ n1_ n2_ n3_
   (try clear hb)
   (try clear hb2)
   (try clear hk)
   (try clear hi)
   refine hK.out _ _ ⟨(blk_cell BK292.out 0).trans rfl, (blk_cell BK292.out 1).trans rfl, (blk_cell BK292.out 2).trans rfl, (blk_cell BK292.out 3).trans rfl, (blk_cell BK292.out 4).trans rfl, (blk_cell BK292.out 5).trans rfl⟩ (fun hHeld => ?_)
   clear hK K
   refine norm_ (a' := ?_) ?_ ?_
   rotate_left
   ·show Act.put _ (some 9) _ = _
    simp only [Act.put, sA_, sB_, sC_, i64_w, i32_w]
    rfl
   refine pu_ (i := 7) (N := some 10) (v := ?_) (a' := ?_) #[true, true, true, true, true, true, true, true] rfl rfl (Or.inl ⟨by rfl, ?_⟩) ?_ ?_
   rotate_left
   ·intro w'
    go_simp
    with_reducible rfl
   rotate_left
   ·simp only [Act.put, sA_, sB_, sC_, i64_w, i32_w]
    rfl
   refine done_ (done_of HT_.out (by kernel_rfl)) ?_
   try go_wp2
   go_ret
   exact ⟨by first | rfl | (simp [errW_none, errW_some] <;> rfl) | (simp [*, errW_none, errW_some] <;> rfl), bb1_ HB GE292⟩
 ·rw [if_neg c3] at H
  exact absurd H (by simp)

/-! ### impl_IsOrient: function 42 -/
def impl_IsOrient.f (a0_0 : Int) (a0_1 : Int) : Option (Bool) := (impl_within.f a0_0 0 5).bind fun t305 => (if t305 = true then ((impl_within.f a0_1 0 5).bind fun t306 => (if t306 = true then (some ((wrap64 (Int.tdiv a0_0 2)) != (wrap64 (Int.tdiv a0_1 2)))) else (some false))) else (some false))
set_option maxHeartbeats 8000000 in
set_option maxRecDepth 100000 in
theorem impl_IsOrient.calls (a0_0 : Int) (a0_1 : Int) (r : Bool) (w : World) (h : impl_IsOrient.f a0_0 a0_1 = some r) :
  Calls Try.prog 42 #[.agg #[.int .i64 a0_0, .int .i64 a0_1]] w fun e w' => e = .returned (.bool r) ∧ Below w.heap.size w w' := by
 have hu44 := Try.underlying44
 have HB := Aside0.mk (Below.refl w.heap.size w)
 have H : ((impl_within.f a0_0 0 5).bind fun t305 => (if t305 = true then ((impl_within.f a0_1 0 5).bind fun t306 => (if t306 = true then (some ((wrap64 (Int.tdiv a0_0 2)) != (wrap64 (Int.tdiv a0_1 2)))) else (some false))) else (some false))) = some r := h
 clear h
 replace H := Option.bind_eq_some_iff.mp H
 obtain ⟨t305, A20, H⟩ := H
 try dsimp only at H
 have A2 := Aside0.mk A20
 clear A20
 by_cases c3 : t305 = true
 ·subst c3
  have H1 : ((impl_within.f a0_1 0 5).bind fun t306 => (if t306 = true then (some ((wrap64 (Int.tdiv a0_0 2)) != (wrap64 (Int.tdiv a0_1 2)))) else (some false))) = some r := by rw [if_pos rfl] at H; exact H
  clear H
  have H := H1
  clear H1
  replace H := Option.bind_eq_some_iff.mp H
  obtain ⟨t306, A40, H⟩ := H
  try dsimp only at H
  have A4 := Aside0.mk A40
  clear A40
  by_cases c5 : t306 = true
  ·subst c5
   have H1 : (some ((wrap64 (Int.tdiv a0_0 2)) != (wrap64 (Int.tdiv a0_1 2)))) = some r := by rw [if_pos rfl] at H; exact H
   clear H
   have H := H1
   clear H1
   obtain rfl := Option.some.inj H
   go_enter Try.func42, Try.ntmps42
   go_wp2_with (first | ((with_reducible refine gate_dst (N := 1) rfl ?_); refine box_event ?hg (N := 1) ?hd (cs := #[.int .i64 a0_0, .int .i64 a0_1]) (t := 44) ?hr ?_; (case hd => rfl); (case hg => rfl); (case hr => first | (go_simp; done) | (go_simp; rfl)); intro gb304 hg w6 hbox hb; have n0_ := Aside0.mk (bt_ HB hb); have n1_ := Aside0.mk (hbox); have n2_ := gz_ hg HB; have n3_ := gz_ hg HB; clear HB; have HB := n0_; have BK304 := n1_; have GW304 := n2_; have GE304 := n3_; clear n0_ n1_ n2_ n3_; clear hb hbox hg; have hcz7_0 := cz0_ BK304; have hcz7_1 := cz1_ BK304; have hfz7_0 := fz_ BK304 0; have hfz7_1 := fz_ BK304 1) | ((with_reducible refine gate_callee (f := 33) rfl ?_); refine goesL_ (some 5) rfl rfl Try.func33 (by kernel_rfl) rfl #[.int .i64 a0_0, .int .i64 0, .int .i64 5] rfl args_ ?_; (with_reducible refine (impl_within.calls a0_0 0 5 true _ A2.out).mono ?_); rintro e w' ⟨rfl, ⟨nd, rfl⟩⟩; refine ⟨_, rfl, ?_⟩) | (go_at_call 33; (with_reducible refine (impl_within.calls a0_1 0 5 true _ A4.out).mono ?_); rintro e w' ⟨rfl, ⟨nd, rfl⟩⟩))
   go_ret
   exact ⟨by first | rfl | (simp [errW_none, errW_some] <;> rfl) | (simp [*, errW_none, errW_some] <;> rfl), bb1_ HB GE304⟩
  ·replace c5 := Bool.eq_false_iff.mpr c5
   subst c5
   have H1 : (some false) = some r := by rw [if_neg (show ¬ (false = true) by decide)] at H; exact H
   clear H
   have H := H1
   clear H1
   obtain rfl := Option.some.inj H
   go_enter Try.func42, Try.ntmps42
   go_wp2_with (first | ((with_reducible refine gate_dst (N := 1) rfl ?_); refine box_event ?hg (N := 1) ?hd (cs := #[.int .i64 a0_0, .int .i64 a0_1]) (t := 44) ?hr ?_; (case hd => rfl); (case hg => rfl); (case hr => first | (go_simp; done) | (go_simp; rfl)); intro gb304 hg w8 hbox hb; have n0_ := Aside0.mk (bt_ HB hb); have n1_ := Aside0.mk (hbox); have n2_ := gz_ hg HB; have n3_ := gz_ hg HB; clear HB; have HB := n0_; have BK304 := n1_; have GW304 := n2_; have GE304 := n3_; clear n0_ n1_ n2_ n3_; clear hb hbox hg; have hcz9_0 := cz0_ BK304; have hcz9_1 := cz1_ BK304; have hfz9_0 := fz_ BK304 0; have hfz9_1 := fz_ BK304 1) | ((with_reducible refine gate_callee (f := 33) rfl ?_); refine goesL_ (some 5) rfl rfl Try.func33 (by kernel_rfl) rfl #[.int .i64 a0_0, .int .i64 0, .int .i64 5] rfl args_ ?_; (with_reducible refine (impl_within.calls a0_0 0 5 true _ A2.out).mono ?_); rintro e w' ⟨rfl, ⟨nd, rfl⟩⟩; refine ⟨_, rfl, ?_⟩) | (go_at_call 33; (with_reducible refine (impl_within.calls a0_1 0 5 false _ A4.out).mono ?_); rintro e w' ⟨rfl, ⟨nd, rfl⟩⟩))
   go_ret
   exact ⟨by first | rfl | (simp [errW_none, errW_some] <;> rfl) | (simp [*, errW_none, errW_some] <;> rfl), bb1_ HB GE304⟩
 ·replace c3 := Bool.eq_false_iff.mpr c3
  subst c3
  have H1 : (some false) = some r := by rw [if_neg (show ¬ (false = true) by decide)] at H; exact H
  clear H
  have H := H1
  clear H1
  obtain rfl := Option.some.inj H
  go_enter Try.func42, Try.ntmps42
  go_wp2_with (first | ((with_reducible refine gate_dst (N := 1) rfl ?_); refine box_event ?hg (N := 1) ?hd (cs := #[.int .i64 a0_0, .int .i64 a0_1]) (t := 44) ?hr ?_; (case hd => rfl); (case hg => rfl); (case hr => first | (go_simp; done) | (go_simp; rfl)); intro gb304 hg w10 hbox hb; have n0_ := Aside0.mk (bt_ HB hb); have n1_ := Aside0.mk (hbox); have n2_ := gz_ hg HB; have n3_ := gz_ hg HB; clear HB; have HB := n0_; have BK304 := n1_; have GW304 := n2_; have GE304 := n3_; clear n0_ n1_ n2_ n3_; clear hb hbox hg; have hcz11_0 := cz0_ BK304; have hcz11_1 := cz1_ BK304; have hfz11_0 := fz_ BK304 0; have hfz11_1 := fz_ BK304 1) | ((with_reducible refine gate_callee (f := 33) rfl ?_); refine goesL_ (some 5) rfl rfl Try.func33 (by kernel_rfl) rfl #[.int .i64 a0_0, .int .i64 0, .int .i64 5] rfl args_ ?_; (with_reducible refine (impl_within.calls a0_0 0 5 false _ A2.out).mono ?_); rintro e w' ⟨rfl, ⟨nd, rfl⟩⟩; refine ⟨_, rfl, ?_⟩))
  go_ret
  exact ⟨by first | rfl | (simp [errW_none, errW_some] <;> rfl) | (simp [*, errW_none, errW_some] <;> rfl), bb1_ HB GE304⟩

/-! ### impl_IsPlace: function 43 -/
def impl_IsPlace.f (a0_0 : Int) (a0_1 : Int) (a0_2 : Bool) : Option (Bool) := (impl_within.f a0_0 0 9).bind fun t308 => (if t308 = true then ((impl_within.f a0_1 (-1) 1).bind fun t309 => (if t309 = true then (if a0_2 = true then (some (!(a0_0 == 0))) else (some (!false))) else (some false))) else (some false))
set_option maxHeartbeats 8000000 in
set_option maxRecDepth 100000 in
theorem impl_IsPlace.calls (a0_0 : Int) (a0_1 : Int) (a0_2 : Bool) (r : Bool) (w : World) (h : impl_IsPlace.f a0_0 a0_1 a0_2 = some r) :
  Calls Try.prog 43 #[.agg #[.int .i64 a0_0, .int .i64 a0_1, .bool a0_2]] w fun e w' => e = .returned (.bool r) ∧ Below w.heap.size w w' := by
 have hu45 := Try.underlying45
 have HB := Aside0.mk (Below.refl w.heap.size w)
 have H : ((impl_within.f a0_0 0 9).bind fun t308 => (if t308 = true then ((impl_within.f a0_1 (-1) 1).bind fun t309 => (if t309 = true then (if a0_2 = true then (some (!(a0_0 == 0))) else (some (!false))) else (some false))) else (some false))) = some r := h
 clear h
 replace H := Option.bind_eq_some_iff.mp H
 obtain ⟨t308, A20, H⟩ := H
 try dsimp only at H
 have A2 := Aside0.mk A20
 clear A20
 by_cases c3 : t308 = true
 ·subst c3
  have H1 : ((impl_within.f a0_1 (-1) 1).bind fun t309 => (if t309 = true then (if a0_2 = true then (some (!(a0_0 == 0))) else (some (!false))) else (some false))) = some r := by rw [if_pos rfl] at H; exact H
  clear H
  have H := H1
  clear H1
  replace H := Option.bind_eq_some_iff.mp H
  obtain ⟨t309, A40, H⟩ := H
  try dsimp only at H
  have A4 := Aside0.mk A40
  clear A40
  by_cases c5 : t309 = true
  ·subst c5
   have H1 : (if a0_2 = true then (some (!(a0_0 == 0))) else (some (!false))) = some r := by rw [if_pos rfl] at H; exact H
   clear H
   have H := H1
   clear H1
   by_cases c6 : a0_2 = true
   ·subst c6
    have H1 : (some (!(a0_0 == 0))) = some r := by rw [if_pos rfl] at H; exact H
    clear H
    have H := H1
    clear H1
    obtain rfl := Option.some.inj H
    go_enter Try.func43, Try.ntmps43
    go_wp2_with (first | ((with_reducible refine gate_dst (N := 1) rfl ?_); refine box_event ?hg (N := 1) ?hd (cs := #[.int .i64 a0_0, .int .i64 a0_1, .bool true]) (t := 45) ?hr ?_; (case hd => rfl); (case hg => rfl); (case hr => first | (go_simp; done) | (go_simp; rfl)); intro gb307 hg w7 hbox hb; have n0_ := Aside0.mk (bt_ HB hb); have n1_ := Aside0.mk (hbox); have n2_ := gz_ hg HB; have n3_ := gz_ hg HB; clear HB; have HB := n0_; have BK307 := n1_; have GW307 := n2_; have GE307 := n3_; clear n0_ n1_ n2_ n3_; clear hb hbox hg; have hcz8_0 := cz0_ BK307; have hcz8_1 := cz1_ BK307; have hcz8_2 := cz2_ BK307; have hfz8_0 := fz_ BK307 0; have hfz8_1 := fz_ BK307 1; have hfz8_2 := fz_ BK307 2) | ((with_reducible refine gate_callee (f := 33) rfl ?_); refine goesL_ (some 5) rfl rfl Try.func33 (by kernel_rfl) rfl #[.int .i64 a0_0, .int .i64 0, .int .i64 9] rfl args_ ?_; (with_reducible refine (impl_within.calls a0_0 0 9 true _ A2.out).mono ?_); rintro e w' ⟨rfl, ⟨nd, rfl⟩⟩; refine ⟨_, rfl, ?_⟩) | (go_at_call 33; (with_reducible refine (impl_within.calls a0_1 (-1) 1 true _ A4.out).mono ?_); rintro e w' ⟨rfl, ⟨nd, rfl⟩⟩))
    go_ret
    exact ⟨by first | rfl | (simp [errW_none, errW_some] <;> rfl) | (simp [*, errW_none, errW_some] <;> rfl), bb1_ HB GE307⟩
   ·replace c6 := Bool.eq_false_iff.mpr c6
    subst c6
    have H1 : (some (!false)) = some r := by rw [if_neg (show ¬ (false = true) by decide)] at H; exact H
    clear H
    have H := H1
    clear H1
    obtain rfl := Option.some.inj H
    go_enter Try.func43, Try.ntmps43
    go_wp2_with (first | ((with_reducible refine gate_dst (N := 1) rfl ?_); refine box_event ?hg (N := 1) ?hd (cs := #[.int .i64 a0_0, .int .i64 a0_1, .bool false]) (t := 45) ?hr ?_; (case hd => rfl); (case hg => rfl); (case hr => first | (go_simp; done) | (go_simp; rfl)); intro gb307 hg w9 hbox hb; have n0_ := Aside0.mk (bt_ HB hb); have n1_ := Aside0.mk (hbox); have n2_ := gz_ hg HB; have n3_ := gz_ hg HB; clear HB; have HB := n0_; have BK307 := n1_; have GW307 := n2_; have GE307 := n3_; clear n0_ n1_ n2_ n3_; clear hb hbox hg; have hcz10_0 := cz0_ BK307; have hcz10_1 := cz1_ BK307; have hcz10_2 := cz2_ BK307; have hfz10_0 := fz_ BK307 0; have hfz10_1 := fz_ BK307 1; have hfz10_2 := fz_ BK307 2) | ((with_reducible refine gate_callee (f := 33) rfl ?_); refine goesL_ (some 5) rfl rfl Try.func33 (by kernel_rfl) rfl #[.int .i64 a0_0, .int .i64 0, .int .i64 9] rfl args_ ?_; (with_reducible refine (impl_within.calls a0_0 0 9 true _ A2.out).mono ?_); rintro e w' ⟨rfl, ⟨nd, rfl⟩⟩; refine ⟨_, rfl, ?_⟩) | (go_at_call 33; (with_reducible refine (impl_within.calls a0_1 (-1) 1 true _ A4.out).mono ?_); rintro e w' ⟨rfl, ⟨nd, rfl⟩⟩))
    go_ret
    exact ⟨by first | rfl | (simp [errW_none, errW_some] <;> rfl) | (simp [*, errW_none, errW_some] <;> rfl), bb1_ HB GE307⟩
  ·replace c5 := Bool.eq_false_iff.mpr c5
   subst c5
   have H1 : (some false) = some r := by rw [if_neg (show ¬ (false = true) by decide)] at H; exact H
   clear H
   have H := H1
   clear H1
   obtain rfl := Option.some.inj H
   go_enter Try.func43, Try.ntmps43
   go_wp2_with (first | ((with_reducible refine gate_dst (N := 1) rfl ?_); refine box_event ?hg (N := 1) ?hd (cs := #[.int .i64 a0_0, .int .i64 a0_1, .bool a0_2]) (t := 45) ?hr ?_; (case hd => rfl); (case hg => rfl); (case hr => first | (go_simp; done) | (go_simp; rfl)); intro gb307 hg w11 hbox hb; have n0_ := Aside0.mk (bt_ HB hb); have n1_ := Aside0.mk (hbox); have n2_ := gz_ hg HB; have n3_ := gz_ hg HB; clear HB; have HB := n0_; have BK307 := n1_; have GW307 := n2_; have GE307 := n3_; clear n0_ n1_ n2_ n3_; clear hb hbox hg; have hcz12_0 := cz0_ BK307; have hcz12_1 := cz1_ BK307; have hcz12_2 := cz2_ BK307; have hfz12_0 := fz_ BK307 0; have hfz12_1 := fz_ BK307 1; have hfz12_2 := fz_ BK307 2) | ((with_reducible refine gate_callee (f := 33) rfl ?_); refine goesL_ (some 5) rfl rfl Try.func33 (by kernel_rfl) rfl #[.int .i64 a0_0, .int .i64 0, .int .i64 9] rfl args_ ?_; (with_reducible refine (impl_within.calls a0_0 0 9 true _ A2.out).mono ?_); rintro e w' ⟨rfl, ⟨nd, rfl⟩⟩; refine ⟨_, rfl, ?_⟩) | (go_at_call 33; (with_reducible refine (impl_within.calls a0_1 (-1) 1 false _ A4.out).mono ?_); rintro e w' ⟨rfl, ⟨nd, rfl⟩⟩))
   go_ret
   exact ⟨by first | rfl | (simp [errW_none, errW_some] <;> rfl) | (simp [*, errW_none, errW_some] <;> rfl), bb1_ HB GE307⟩
 ·replace c3 := Bool.eq_false_iff.mpr c3
  subst c3
  have H1 : (some false) = some r := by rw [if_neg (show ¬ (false = true) by decide)] at H; exact H
  clear H
  have H := H1
  clear H1
  obtain rfl := Option.some.inj H
  go_enter Try.func43, Try.ntmps43
  go_wp2_with (first | ((with_reducible refine gate_dst (N := 1) rfl ?_); refine box_event ?hg (N := 1) ?hd (cs := #[.int .i64 a0_0, .int .i64 a0_1, .bool a0_2]) (t := 45) ?hr ?_; (case hd => rfl); (case hg => rfl); (case hr => first | (go_simp; done) | (go_simp; rfl)); intro gb307 hg w13 hbox hb; have n0_ := Aside0.mk (bt_ HB hb); have n1_ := Aside0.mk (hbox); have n2_ := gz_ hg HB; have n3_ := gz_ hg HB; clear HB; have HB := n0_; have BK307 := n1_; have GW307 := n2_; have GE307 := n3_; clear n0_ n1_ n2_ n3_; clear hb hbox hg; have hcz14_0 := cz0_ BK307; have hcz14_1 := cz1_ BK307; have hcz14_2 := cz2_ BK307; have hfz14_0 := fz_ BK307 0; have hfz14_1 := fz_ BK307 1; have hfz14_2 := fz_ BK307 2) | ((with_reducible refine gate_callee (f := 33) rfl ?_); refine goesL_ (some 5) rfl rfl Try.func33 (by kernel_rfl) rfl #[.int .i64 a0_0, .int .i64 0, .int .i64 9] rfl args_ ?_; (with_reducible refine (impl_within.calls a0_0 0 9 false _ A2.out).mono ?_); rintro e w' ⟨rfl, ⟨nd, rfl⟩⟩; refine ⟨_, rfl, ?_⟩))
  go_ret
  exact ⟨by first | rfl | (simp [errW_none, errW_some] <;> rfl) | (simp [*, errW_none, errW_some] <;> rfl), bb1_ HB GE307⟩

/-! ### impl_IsHand: function 27 -/
def impl_IsHand.f (k : Nat) (a0_0 : Int) (a0_1 : Int) (a0_2 : Int) (a0_3 : Int) (a0_4 : Int) (a0_5 : Bool) (a0_6 : Int) (a0_7 : Int) (a0_8 : Int) (a0_9 : Int) (a0_10 : Bool) (a0_11 : ByteArray) (a0_12 : Int) : Option (Bool) := (impl_IsShape.f a0_0 a0_1 a0_2 a0_3 a0_4 a0_5).bind fun t311 => (if t311 = true then ((impl_IsOrient.f a0_6 a0_7).bind fun t312 => (if t312 = true then ((impl_IsPlace.f a0_8 a0_9 a0_10).bind fun t313 => (if t313 = true then ((impl_IsMove.f k a0_11 a0_12).bind fun t314 => (some t314)) else (some false))) else (some false))) else (some false))
theorem impl_IsHand.mono : ∀ a0 a1 a2 a3 a4 a5 a6 a7 a8 a9 a10 a11 a12 k, LeO (impl_IsHand.f k a0 a1 a2 a3 a4 a5 a6 a7 a8 a9 a10 a11 a12) (impl_IsHand.f (k + 1) a0 a1 a2 a3 a4 a5 a6 a7 a8 a9 a10 a11 a12) := by
 intro a0 a1 a2 a3 a4 a5 a6 a7 a8 a9 a10 a11 a12 k
 unfold impl_IsHand.f
 repeat' first
   | (with_reducible exact impl_IsMove.mono _ _ _)
   | (with_reducible exact LeO.refl _)
   | (with_reducible exact LeO.none _)
   | (with_reducible refine LeO.ite ?_ ?_)
   | (with_reducible refine LeO.bind ?_ (fun _ => ?_))
   | exact LeO.none _
   | refine LeO.ite ?_ ?_
   | refine LeO.bind ?_ (fun _ => ?_)
set_option maxHeartbeats 8000000 in
set_option maxRecDepth 100000 in
theorem impl_IsHand.calls (k : Nat) (a0_0 : Int) (a0_1 : Int) (a0_2 : Int) (a0_3 : Int) (a0_4 : Int) (a0_5 : Bool) (a0_6 : Int) (a0_7 : Int) (a0_8 : Int) (a0_9 : Int) (a0_10 : Bool) (a0_11 : ByteArray) (a0_12 : Int) (r : Bool) (w : World) (h : impl_IsHand.f k a0_0 a0_1 a0_2 a0_3 a0_4 a0_5 a0_6 a0_7 a0_8 a0_9 a0_10 a0_11 a0_12 = some r) :
  Calls Try.prog 27 #[.agg #[.int .i64 a0_0, .int .i64 a0_1, .int .i64 a0_2, .int .i64 a0_3, .int .i64 a0_4, .bool a0_5, .int .i64 a0_6, .int .i64 a0_7, .int .i64 a0_8, .int .i64 a0_9, .bool a0_10, .string a0_11, .int .i64 a0_12]] w fun e w' => e = .returned (.bool r) ∧ Below w.heap.size w w' := by
 have hu47 := Try.underlying47
 have hu43 := Try.underlying43
 have hu44 := Try.underlying44
 have hu45 := Try.underlying45
 have hu27 := Try.underlying27
 have HB := Aside0.mk (Below.refl w.heap.size w)
 have H : ((impl_IsShape.f a0_0 a0_1 a0_2 a0_3 a0_4 a0_5).bind fun t311 => (if t311 = true then ((impl_IsOrient.f a0_6 a0_7).bind fun t312 => (if t312 = true then ((impl_IsPlace.f a0_8 a0_9 a0_10).bind fun t313 => (if t313 = true then ((impl_IsMove.f k a0_11 a0_12).bind fun t314 => (some t314)) else (some false))) else (some false))) else (some false))) = some r := h
 clear h
 replace H := Option.bind_eq_some_iff.mp H
 obtain ⟨t311, A20, H⟩ := H
 try dsimp only at H
 have A2 := Aside0.mk A20
 clear A20
 by_cases c3 : t311 = true
 ·subst c3
  have H1 : ((impl_IsOrient.f a0_6 a0_7).bind fun t312 => (if t312 = true then ((impl_IsPlace.f a0_8 a0_9 a0_10).bind fun t313 => (if t313 = true then ((impl_IsMove.f k a0_11 a0_12).bind fun t314 => (some t314)) else (some false))) else (some false))) = some r := by rw [if_pos rfl] at H; exact H
  clear H
  have H := H1
  clear H1
  replace H := Option.bind_eq_some_iff.mp H
  obtain ⟨t312, A40, H⟩ := H
  try dsimp only at H
  have A4 := Aside0.mk A40
  clear A40
  by_cases c5 : t312 = true
  ·subst c5
   have H1 : ((impl_IsPlace.f a0_8 a0_9 a0_10).bind fun t313 => (if t313 = true then ((impl_IsMove.f k a0_11 a0_12).bind fun t314 => (some t314)) else (some false))) = some r := by rw [if_pos rfl] at H; exact H
   clear H
   have H := H1
   clear H1
   replace H := Option.bind_eq_some_iff.mp H
   obtain ⟨t313, A60, H⟩ := H
   try dsimp only at H
   have A6 := Aside0.mk A60
   clear A60
   by_cases c7 : t313 = true
   ·subst c7
    have H1 : ((impl_IsMove.f k a0_11 a0_12).bind fun t314 => (some t314)) = some r := by rw [if_pos rfl] at H; exact H
    clear H
    have H := H1
    clear H1
    replace H := Option.bind_eq_some_iff.mp H
    obtain ⟨t314, A80, H⟩ := H
    try dsimp only at H
    have A8 := Aside0.mk A80
    clear A80
    obtain rfl := Option.some.inj H
    go_enter Try.func27, Try.ntmps27
    go_wp2_with (first | ((with_reducible refine gate_dst (N := 1) rfl ?_); refine box_event ?hg (N := 1) ?hd (cs := #[.int .i64 a0_0, .int .i64 a0_1, .int .i64 a0_2, .int .i64 a0_3, .int .i64 a0_4, .bool a0_5, .int .i64 a0_6, .int .i64 a0_7, .int .i64 a0_8, .int .i64 a0_9, .bool a0_10, .string a0_11, .int .i64 a0_12]) (t := 47) ?hr ?_; (case hd => rfl); (case hg => rfl); (case hr => first | (go_simp; done) | (go_simp; rfl)); intro gb310 hg w9 hbox hb; have n0_ := Aside0.mk (bt_ HB hb); have n1_ := Aside0.mk (hbox); have n2_ := gz_ hg HB; have n3_ := gz_ hg HB; clear HB; have HB := n0_; have BK310 := n1_; have GW310 := n2_; have GE310 := n3_; clear n0_ n1_ n2_ n3_; clear hb hbox hg; have hcz10_0 := cz0_ BK310; have hcz10_1 := cz1_ BK310; have hcz10_2 := cz2_ BK310; have hcz10_3 := cz3_ BK310; have hcz10_4 : w9.cell? ⟨gb310, 4, none⟩ = some (.int .i64 a0_4) := (blk_cell BK310.out 4).trans rfl; have hcz10_5 : w9.cell? ⟨gb310, 5, none⟩ = some (.bool a0_5) := (blk_cell BK310.out 5).trans rfl; have hcz10_6 : w9.cell? ⟨gb310, 6, none⟩ = some (.int .i64 a0_6) := (blk_cell BK310.out 6).trans rfl; have hcz10_7 : w9.cell? ⟨gb310, 7, none⟩ = some (.int .i64 a0_7) := (blk_cell BK310.out 7).trans rfl; have hcz10_8 : w9.cell? ⟨gb310, 8, none⟩ = some (.int .i64 a0_8) := (blk_cell BK310.out 8).trans rfl; have hcz10_9 : w9.cell? ⟨gb310, 9, none⟩ = some (.int .i64 a0_9) := (blk_cell BK310.out 9).trans rfl; have hcz10_10 : w9.cell? ⟨gb310, 10, none⟩ = some (.bool a0_10) := (blk_cell BK310.out 10).trans rfl; have hcz10_11 : w9.cell? ⟨gb310, 11, none⟩ = some (.string a0_11) := (blk_cell BK310.out 11).trans rfl; have hcz10_12 : w9.cell? ⟨gb310, 12, none⟩ = some (.int .i64 a0_12) := (blk_cell BK310.out 12).trans rfl; have hfz10_0 := fz_ BK310 0; have hfz10_1 := fz_ BK310 1; have hfz10_2 := fz_ BK310 2; have hfz10_3 := fz_ BK310 3; have hfz10_4 := fz_ BK310 4; have hfz10_5 := fz_ BK310 5; have hfz10_6 := fz_ BK310 6; have hfz10_7 := fz_ BK310 7; have hfz10_8 := fz_ BK310 8; have hfz10_9 := fz_ BK310 9; have hfz10_10 := fz_ BK310 10; have hfz10_11 := fz_ BK310 11; have hfz10_12 := fz_ BK310 12) | ((with_reducible refine gate_callee (f := 41) rfl ?_); refine goesL_ (some 5) rfl rfl Try.func41 (by kernel_rfl) rfl #[.agg #[.int .i64 a0_0, .int .i64 a0_1, .int .i64 a0_2, .int .i64 a0_3, .int .i64 a0_4, .bool a0_5]] rfl args_ ?_; (with_reducible refine (impl_IsShape.calls a0_0 a0_1 a0_2 a0_3 a0_4 a0_5 true _ A2.out).mono ?_); rintro e w11 ⟨rfl, hb⟩; refine ⟨_, rfl, ?_⟩; have n0_ := Aside0.mk (lb_ BK310 hb); have n1_ := Aside0.mk (below_step (bb1_ HB GE310) hb); clear BK310; clear HB; have BK310 := n0_; have HB := n1_; clear n0_ n1_; (try clear hb); (try clear hb2); (try clear hk); (try clear hi); have hcz12_0 := cz0_ BK310; have hcz12_1 := cz1_ BK310; have hcz12_2 := cz2_ BK310; have hcz12_3 := cz3_ BK310; have hcz12_4 : w11.cell? ⟨gb310, 4, none⟩ = some (.int .i64 a0_4) := (blk_cell BK310.out 4).trans rfl; have hcz12_5 : w11.cell? ⟨gb310, 5, none⟩ = some (.bool a0_5) := (blk_cell BK310.out 5).trans rfl; have hcz12_6 : w11.cell? ⟨gb310, 6, none⟩ = some (.int .i64 a0_6) := (blk_cell BK310.out 6).trans rfl; have hcz12_7 : w11.cell? ⟨gb310, 7, none⟩ = some (.int .i64 a0_7) := (blk_cell BK310.out 7).trans rfl; have hcz12_8 : w11.cell? ⟨gb310, 8, none⟩ = some (.int .i64 a0_8) := (blk_cell BK310.out 8).trans rfl; have hcz12_9 : w11.cell? ⟨gb310, 9, none⟩ = some (.int .i64 a0_9) := (blk_cell BK310.out 9).trans rfl; have hcz12_10 : w11.cell? ⟨gb310, 10, none⟩ = some (.bool a0_10) := (blk_cell BK310.out 10).trans rfl; have hcz12_11 : w11.cell? ⟨gb310, 11, none⟩ = some (.string a0_11) := (blk_cell BK310.out 11).trans rfl; have hcz12_12 : w11.cell? ⟨gb310, 12, none⟩ = some (.int .i64 a0_12) := (blk_cell BK310.out 12).trans rfl; have hfz12_0 := fz_ BK310 0; have hfz12_1 := fz_ BK310 1; have hfz12_2 := fz_ BK310 2; have hfz12_3 := fz_ BK310 3; have hfz12_4 := fz_ BK310 4; have hfz12_5 := fz_ BK310 5; have hfz12_6 := fz_ BK310 6; have hfz12_7 := fz_ BK310 7; have hfz12_8 := fz_ BK310 8; have hfz12_9 := fz_ BK310 9; have hfz12_10 := fz_ BK310 10; have hfz12_11 := fz_ BK310 11; have hfz12_12 := fz_ BK310 12) | (go_at_call 42; (with_reducible refine (impl_IsOrient.calls a0_6 a0_7 true _ A4.out).mono ?_); rintro e w13 ⟨rfl, hb⟩; have n0_ := Aside0.mk (lb_ BK310 hb); have n1_ := Aside0.mk (below_step (bb1_ HB GE310) hb); clear BK310; clear HB; have BK310 := n0_; have HB := n1_; clear n0_ n1_; (try clear hb); (try clear hb2); (try clear hk); (try clear hi); have hcz14_0 := cz0_ BK310; have hcz14_1 := cz1_ BK310; have hcz14_2 := cz2_ BK310; have hcz14_3 := cz3_ BK310; have hcz14_4 : w13.cell? ⟨gb310, 4, none⟩ = some (.int .i64 a0_4) := (blk_cell BK310.out 4).trans rfl; have hcz14_5 : w13.cell? ⟨gb310, 5, none⟩ = some (.bool a0_5) := (blk_cell BK310.out 5).trans rfl; have hcz14_6 : w13.cell? ⟨gb310, 6, none⟩ = some (.int .i64 a0_6) := (blk_cell BK310.out 6).trans rfl; have hcz14_7 : w13.cell? ⟨gb310, 7, none⟩ = some (.int .i64 a0_7) := (blk_cell BK310.out 7).trans rfl; have hcz14_8 : w13.cell? ⟨gb310, 8, none⟩ = some (.int .i64 a0_8) := (blk_cell BK310.out 8).trans rfl; have hcz14_9 : w13.cell? ⟨gb310, 9, none⟩ = some (.int .i64 a0_9) := (blk_cell BK310.out 9).trans rfl; have hcz14_10 : w13.cell? ⟨gb310, 10, none⟩ = some (.bool a0_10) := (blk_cell BK310.out 10).trans rfl; have hcz14_11 : w13.cell? ⟨gb310, 11, none⟩ = some (.string a0_11) := (blk_cell BK310.out 11).trans rfl; have hcz14_12 : w13.cell? ⟨gb310, 12, none⟩ = some (.int .i64 a0_12) := (blk_cell BK310.out 12).trans rfl; have hfz14_0 := fz_ BK310 0; have hfz14_1 := fz_ BK310 1; have hfz14_2 := fz_ BK310 2; have hfz14_3 := fz_ BK310 3; have hfz14_4 := fz_ BK310 4; have hfz14_5 := fz_ BK310 5; have hfz14_6 := fz_ BK310 6; have hfz14_7 := fz_ BK310 7; have hfz14_8 := fz_ BK310 8; have hfz14_9 := fz_ BK310 9; have hfz14_10 := fz_ BK310 10; have hfz14_11 := fz_ BK310 11; have hfz14_12 := fz_ BK310 12) | (go_at_call 43; (with_reducible refine (impl_IsPlace.calls a0_8 a0_9 a0_10 true _ A6.out).mono ?_); rintro e w15 ⟨rfl, hb⟩; have n0_ := Aside0.mk (lb_ BK310 hb); have n1_ := Aside0.mk (below_step (bb1_ HB GE310) hb); clear BK310; clear HB; have BK310 := n0_; have HB := n1_; clear n0_ n1_; (try clear hb); (try clear hb2); (try clear hk); (try clear hi); have hcz16_0 := cz0_ BK310; have hcz16_1 := cz1_ BK310; have hcz16_2 := cz2_ BK310; have hcz16_3 := cz3_ BK310; have hcz16_4 : w15.cell? ⟨gb310, 4, none⟩ = some (.int .i64 a0_4) := (blk_cell BK310.out 4).trans rfl; have hcz16_5 : w15.cell? ⟨gb310, 5, none⟩ = some (.bool a0_5) := (blk_cell BK310.out 5).trans rfl; have hcz16_6 : w15.cell? ⟨gb310, 6, none⟩ = some (.int .i64 a0_6) := (blk_cell BK310.out 6).trans rfl; have hcz16_7 : w15.cell? ⟨gb310, 7, none⟩ = some (.int .i64 a0_7) := (blk_cell BK310.out 7).trans rfl; have hcz16_8 : w15.cell? ⟨gb310, 8, none⟩ = some (.int .i64 a0_8) := (blk_cell BK310.out 8).trans rfl; have hcz16_9 : w15.cell? ⟨gb310, 9, none⟩ = some (.int .i64 a0_9) := (blk_cell BK310.out 9).trans rfl; have hcz16_10 : w15.cell? ⟨gb310, 10, none⟩ = some (.bool a0_10) := (blk_cell BK310.out 10).trans rfl; have hcz16_11 : w15.cell? ⟨gb310, 11, none⟩ = some (.string a0_11) := (blk_cell BK310.out 11).trans rfl; have hcz16_12 : w15.cell? ⟨gb310, 12, none⟩ = some (.int .i64 a0_12) := (blk_cell BK310.out 12).trans rfl; have hfz16_0 := fz_ BK310 0; have hfz16_1 := fz_ BK310 1; have hfz16_2 := fz_ BK310 2; have hfz16_3 := fz_ BK310 3; have hfz16_4 := fz_ BK310 4; have hfz16_5 := fz_ BK310 5; have hfz16_6 := fz_ BK310 6; have hfz16_7 := fz_ BK310 7; have hfz16_8 := fz_ BK310 8; have hfz16_9 := fz_ BK310 9; have hfz16_10 := fz_ BK310 10; have hfz16_11 := fz_ BK310 11; have hfz16_12 := fz_ BK310 12) | (go_at_call 18; (with_reducible refine (impl_IsMove.calls k a0_11 a0_12 t314 _ A8.out).mono ?_); rintro e w17 ⟨rfl, hb⟩; have n0_ := Aside0.mk (lb_ BK310 hb); have n1_ := Aside0.mk (below_step (bb1_ HB GE310) hb); clear BK310; clear HB; have BK310 := n0_; have HB := n1_; clear n0_ n1_; (try clear hb); (try clear hb2); (try clear hk); (try clear hi)))
    go_ret
    exact ⟨by first | rfl | (simp [errW_none, errW_some] <;> rfl) | (simp [*, errW_none, errW_some] <;> rfl), bb1_ HB GE310⟩
   ·replace c7 := Bool.eq_false_iff.mpr c7
    subst c7
    have H1 : (some false) = some r := by rw [if_neg (show ¬ (false = true) by decide)] at H; exact H
    clear H
    have H := H1
    clear H1
    obtain rfl := Option.some.inj H
    go_enter Try.func27, Try.ntmps27
    go_wp2_with (first | ((with_reducible refine gate_dst (N := 1) rfl ?_); refine box_event ?hg (N := 1) ?hd (cs := #[.int .i64 a0_0, .int .i64 a0_1, .int .i64 a0_2, .int .i64 a0_3, .int .i64 a0_4, .bool a0_5, .int .i64 a0_6, .int .i64 a0_7, .int .i64 a0_8, .int .i64 a0_9, .bool a0_10, .string a0_11, .int .i64 a0_12]) (t := 47) ?hr ?_; (case hd => rfl); (case hg => rfl); (case hr => first | (go_simp; done) | (go_simp; rfl)); intro gb310 hg w18 hbox hb; have n0_ := Aside0.mk (bt_ HB hb); have n1_ := Aside0.mk (hbox); have n2_ := gz_ hg HB; have n3_ := gz_ hg HB; clear HB; have HB := n0_; have BK310 := n1_; have GW310 := n2_; have GE310 := n3_; clear n0_ n1_ n2_ n3_; clear hb hbox hg; have hcz19_0 := cz0_ BK310; have hcz19_1 := cz1_ BK310; have hcz19_2 := cz2_ BK310; have hcz19_3 := cz3_ BK310; have hcz19_4 : w18.cell? ⟨gb310, 4, none⟩ = some (.int .i64 a0_4) := (blk_cell BK310.out 4).trans rfl; have hcz19_5 : w18.cell? ⟨gb310, 5, none⟩ = some (.bool a0_5) := (blk_cell BK310.out 5).trans rfl; have hcz19_6 : w18.cell? ⟨gb310, 6, none⟩ = some (.int .i64 a0_6) := (blk_cell BK310.out 6).trans rfl; have hcz19_7 : w18.cell? ⟨gb310, 7, none⟩ = some (.int .i64 a0_7) := (blk_cell BK310.out 7).trans rfl; have hcz19_8 : w18.cell? ⟨gb310, 8, none⟩ = some (.int .i64 a0_8) := (blk_cell BK310.out 8).trans rfl; have hcz19_9 : w18.cell? ⟨gb310, 9, none⟩ = some (.int .i64 a0_9) := (blk_cell BK310.out 9).trans rfl; have hcz19_10 : w18.cell? ⟨gb310, 10, none⟩ = some (.bool a0_10) := (blk_cell BK310.out 10).trans rfl; have hcz19_11 : w18.cell? ⟨gb310, 11, none⟩ = some (.string a0_11) := (blk_cell BK310.out 11).trans rfl; have hcz19_12 : w18.cell? ⟨gb310, 12, none⟩ = some (.int .i64 a0_12) := (blk_cell BK310.out 12).trans rfl; have hfz19_0 := fz_ BK310 0; have hfz19_1 := fz_ BK310 1; have hfz19_2 := fz_ BK310 2; have hfz19_3 := fz_ BK310 3; have hfz19_4 := fz_ BK310 4; have hfz19_5 := fz_ BK310 5; have hfz19_6 := fz_ BK310 6; have hfz19_7 := fz_ BK310 7; have hfz19_8 := fz_ BK310 8; have hfz19_9 := fz_ BK310 9; have hfz19_10 := fz_ BK310 10; have hfz19_11 := fz_ BK310 11; have hfz19_12 := fz_ BK310 12) | ((with_reducible refine gate_callee (f := 41) rfl ?_); refine goesL_ (some 5) rfl rfl Try.func41 (by kernel_rfl) rfl #[.agg #[.int .i64 a0_0, .int .i64 a0_1, .int .i64 a0_2, .int .i64 a0_3, .int .i64 a0_4, .bool a0_5]] rfl args_ ?_; (with_reducible refine (impl_IsShape.calls a0_0 a0_1 a0_2 a0_3 a0_4 a0_5 true _ A2.out).mono ?_); rintro e w20 ⟨rfl, hb⟩; refine ⟨_, rfl, ?_⟩; have n0_ := Aside0.mk (lb_ BK310 hb); have n1_ := Aside0.mk (below_step (bb1_ HB GE310) hb); clear BK310; clear HB; have BK310 := n0_; have HB := n1_; clear n0_ n1_; (try clear hb); (try clear hb2); (try clear hk); (try clear hi); have hcz21_0 := cz0_ BK310; have hcz21_1 := cz1_ BK310; have hcz21_2 := cz2_ BK310; have hcz21_3 := cz3_ BK310; have hcz21_4 : w20.cell? ⟨gb310, 4, none⟩ = some (.int .i64 a0_4) := (blk_cell BK310.out 4).trans rfl; have hcz21_5 : w20.cell? ⟨gb310, 5, none⟩ = some (.bool a0_5) := (blk_cell BK310.out 5).trans rfl; have hcz21_6 : w20.cell? ⟨gb310, 6, none⟩ = some (.int .i64 a0_6) := (blk_cell BK310.out 6).trans rfl; have hcz21_7 : w20.cell? ⟨gb310, 7, none⟩ = some (.int .i64 a0_7) := (blk_cell BK310.out 7).trans rfl; have hcz21_8 : w20.cell? ⟨gb310, 8, none⟩ = some (.int .i64 a0_8) := (blk_cell BK310.out 8).trans rfl; have hcz21_9 : w20.cell? ⟨gb310, 9, none⟩ = some (.int .i64 a0_9) := (blk_cell BK310.out 9).trans rfl; have hcz21_10 : w20.cell? ⟨gb310, 10, none⟩ = some (.bool a0_10) := (blk_cell BK310.out 10).trans rfl; have hcz21_11 : w20.cell? ⟨gb310, 11, none⟩ = some (.string a0_11) := (blk_cell BK310.out 11).trans rfl; have hcz21_12 : w20.cell? ⟨gb310, 12, none⟩ = some (.int .i64 a0_12) := (blk_cell BK310.out 12).trans rfl; have hfz21_0 := fz_ BK310 0; have hfz21_1 := fz_ BK310 1; have hfz21_2 := fz_ BK310 2; have hfz21_3 := fz_ BK310 3; have hfz21_4 := fz_ BK310 4; have hfz21_5 := fz_ BK310 5; have hfz21_6 := fz_ BK310 6; have hfz21_7 := fz_ BK310 7; have hfz21_8 := fz_ BK310 8; have hfz21_9 := fz_ BK310 9; have hfz21_10 := fz_ BK310 10; have hfz21_11 := fz_ BK310 11; have hfz21_12 := fz_ BK310 12) | (go_at_call 42; (with_reducible refine (impl_IsOrient.calls a0_6 a0_7 true _ A4.out).mono ?_); rintro e w22 ⟨rfl, hb⟩; have n0_ := Aside0.mk (lb_ BK310 hb); have n1_ := Aside0.mk (below_step (bb1_ HB GE310) hb); clear BK310; clear HB; have BK310 := n0_; have HB := n1_; clear n0_ n1_; (try clear hb); (try clear hb2); (try clear hk); (try clear hi); have hcz23_0 := cz0_ BK310; have hcz23_1 := cz1_ BK310; have hcz23_2 := cz2_ BK310; have hcz23_3 := cz3_ BK310; have hcz23_4 : w22.cell? ⟨gb310, 4, none⟩ = some (.int .i64 a0_4) := (blk_cell BK310.out 4).trans rfl; have hcz23_5 : w22.cell? ⟨gb310, 5, none⟩ = some (.bool a0_5) := (blk_cell BK310.out 5).trans rfl; have hcz23_6 : w22.cell? ⟨gb310, 6, none⟩ = some (.int .i64 a0_6) := (blk_cell BK310.out 6).trans rfl; have hcz23_7 : w22.cell? ⟨gb310, 7, none⟩ = some (.int .i64 a0_7) := (blk_cell BK310.out 7).trans rfl; have hcz23_8 : w22.cell? ⟨gb310, 8, none⟩ = some (.int .i64 a0_8) := (blk_cell BK310.out 8).trans rfl; have hcz23_9 : w22.cell? ⟨gb310, 9, none⟩ = some (.int .i64 a0_9) := (blk_cell BK310.out 9).trans rfl; have hcz23_10 : w22.cell? ⟨gb310, 10, none⟩ = some (.bool a0_10) := (blk_cell BK310.out 10).trans rfl; have hcz23_11 : w22.cell? ⟨gb310, 11, none⟩ = some (.string a0_11) := (blk_cell BK310.out 11).trans rfl; have hcz23_12 : w22.cell? ⟨gb310, 12, none⟩ = some (.int .i64 a0_12) := (blk_cell BK310.out 12).trans rfl; have hfz23_0 := fz_ BK310 0; have hfz23_1 := fz_ BK310 1; have hfz23_2 := fz_ BK310 2; have hfz23_3 := fz_ BK310 3; have hfz23_4 := fz_ BK310 4; have hfz23_5 := fz_ BK310 5; have hfz23_6 := fz_ BK310 6; have hfz23_7 := fz_ BK310 7; have hfz23_8 := fz_ BK310 8; have hfz23_9 := fz_ BK310 9; have hfz23_10 := fz_ BK310 10; have hfz23_11 := fz_ BK310 11; have hfz23_12 := fz_ BK310 12) | (go_at_call 43; (with_reducible refine (impl_IsPlace.calls a0_8 a0_9 a0_10 false _ A6.out).mono ?_); rintro e w24 ⟨rfl, hb⟩; have n0_ := Aside0.mk (lb_ BK310 hb); have n1_ := Aside0.mk (below_step (bb1_ HB GE310) hb); clear BK310; clear HB; have BK310 := n0_; have HB := n1_; clear n0_ n1_; (try clear hb); (try clear hb2); (try clear hk); (try clear hi)))
    go_ret
    exact ⟨by first | rfl | (simp [errW_none, errW_some] <;> rfl) | (simp [*, errW_none, errW_some] <;> rfl), bb1_ HB GE310⟩
  ·replace c5 := Bool.eq_false_iff.mpr c5
   subst c5
   have H1 : (some false) = some r := by rw [if_neg (show ¬ (false = true) by decide)] at H; exact H
   clear H
   have H := H1
   clear H1
   obtain rfl := Option.some.inj H
   go_enter Try.func27, Try.ntmps27
   go_wp2_with (first | ((with_reducible refine gate_dst (N := 1) rfl ?_); refine box_event ?hg (N := 1) ?hd (cs := #[.int .i64 a0_0, .int .i64 a0_1, .int .i64 a0_2, .int .i64 a0_3, .int .i64 a0_4, .bool a0_5, .int .i64 a0_6, .int .i64 a0_7, .int .i64 a0_8, .int .i64 a0_9, .bool a0_10, .string a0_11, .int .i64 a0_12]) (t := 47) ?hr ?_; (case hd => rfl); (case hg => rfl); (case hr => first | (go_simp; done) | (go_simp; rfl)); intro gb310 hg w25 hbox hb; have n0_ := Aside0.mk (bt_ HB hb); have n1_ := Aside0.mk (hbox); have n2_ := gz_ hg HB; have n3_ := gz_ hg HB; clear HB; have HB := n0_; have BK310 := n1_; have GW310 := n2_; have GE310 := n3_; clear n0_ n1_ n2_ n3_; clear hb hbox hg; have hcz26_0 := cz0_ BK310; have hcz26_1 := cz1_ BK310; have hcz26_2 := cz2_ BK310; have hcz26_3 := cz3_ BK310; have hcz26_4 : w25.cell? ⟨gb310, 4, none⟩ = some (.int .i64 a0_4) := (blk_cell BK310.out 4).trans rfl; have hcz26_5 : w25.cell? ⟨gb310, 5, none⟩ = some (.bool a0_5) := (blk_cell BK310.out 5).trans rfl; have hcz26_6 : w25.cell? ⟨gb310, 6, none⟩ = some (.int .i64 a0_6) := (blk_cell BK310.out 6).trans rfl; have hcz26_7 : w25.cell? ⟨gb310, 7, none⟩ = some (.int .i64 a0_7) := (blk_cell BK310.out 7).trans rfl; have hcz26_8 : w25.cell? ⟨gb310, 8, none⟩ = some (.int .i64 a0_8) := (blk_cell BK310.out 8).trans rfl; have hcz26_9 : w25.cell? ⟨gb310, 9, none⟩ = some (.int .i64 a0_9) := (blk_cell BK310.out 9).trans rfl; have hcz26_10 : w25.cell? ⟨gb310, 10, none⟩ = some (.bool a0_10) := (blk_cell BK310.out 10).trans rfl; have hcz26_11 : w25.cell? ⟨gb310, 11, none⟩ = some (.string a0_11) := (blk_cell BK310.out 11).trans rfl; have hcz26_12 : w25.cell? ⟨gb310, 12, none⟩ = some (.int .i64 a0_12) := (blk_cell BK310.out 12).trans rfl; have hfz26_0 := fz_ BK310 0; have hfz26_1 := fz_ BK310 1; have hfz26_2 := fz_ BK310 2; have hfz26_3 := fz_ BK310 3; have hfz26_4 := fz_ BK310 4; have hfz26_5 := fz_ BK310 5; have hfz26_6 := fz_ BK310 6; have hfz26_7 := fz_ BK310 7; have hfz26_8 := fz_ BK310 8; have hfz26_9 := fz_ BK310 9; have hfz26_10 := fz_ BK310 10; have hfz26_11 := fz_ BK310 11; have hfz26_12 := fz_ BK310 12) | ((with_reducible refine gate_callee (f := 41) rfl ?_); refine goesL_ (some 5) rfl rfl Try.func41 (by kernel_rfl) rfl #[.agg #[.int .i64 a0_0, .int .i64 a0_1, .int .i64 a0_2, .int .i64 a0_3, .int .i64 a0_4, .bool a0_5]] rfl args_ ?_; (with_reducible refine (impl_IsShape.calls a0_0 a0_1 a0_2 a0_3 a0_4 a0_5 true _ A2.out).mono ?_); rintro e w27 ⟨rfl, hb⟩; refine ⟨_, rfl, ?_⟩; have n0_ := Aside0.mk (lb_ BK310 hb); have n1_ := Aside0.mk (below_step (bb1_ HB GE310) hb); clear BK310; clear HB; have BK310 := n0_; have HB := n1_; clear n0_ n1_; (try clear hb); (try clear hb2); (try clear hk); (try clear hi); have hcz28_0 := cz0_ BK310; have hcz28_1 := cz1_ BK310; have hcz28_2 := cz2_ BK310; have hcz28_3 := cz3_ BK310; have hcz28_4 : w27.cell? ⟨gb310, 4, none⟩ = some (.int .i64 a0_4) := (blk_cell BK310.out 4).trans rfl; have hcz28_5 : w27.cell? ⟨gb310, 5, none⟩ = some (.bool a0_5) := (blk_cell BK310.out 5).trans rfl; have hcz28_6 : w27.cell? ⟨gb310, 6, none⟩ = some (.int .i64 a0_6) := (blk_cell BK310.out 6).trans rfl; have hcz28_7 : w27.cell? ⟨gb310, 7, none⟩ = some (.int .i64 a0_7) := (blk_cell BK310.out 7).trans rfl; have hcz28_8 : w27.cell? ⟨gb310, 8, none⟩ = some (.int .i64 a0_8) := (blk_cell BK310.out 8).trans rfl; have hcz28_9 : w27.cell? ⟨gb310, 9, none⟩ = some (.int .i64 a0_9) := (blk_cell BK310.out 9).trans rfl; have hcz28_10 : w27.cell? ⟨gb310, 10, none⟩ = some (.bool a0_10) := (blk_cell BK310.out 10).trans rfl; have hcz28_11 : w27.cell? ⟨gb310, 11, none⟩ = some (.string a0_11) := (blk_cell BK310.out 11).trans rfl; have hcz28_12 : w27.cell? ⟨gb310, 12, none⟩ = some (.int .i64 a0_12) := (blk_cell BK310.out 12).trans rfl; have hfz28_0 := fz_ BK310 0; have hfz28_1 := fz_ BK310 1; have hfz28_2 := fz_ BK310 2; have hfz28_3 := fz_ BK310 3; have hfz28_4 := fz_ BK310 4; have hfz28_5 := fz_ BK310 5; have hfz28_6 := fz_ BK310 6; have hfz28_7 := fz_ BK310 7; have hfz28_8 := fz_ BK310 8; have hfz28_9 := fz_ BK310 9; have hfz28_10 := fz_ BK310 10; have hfz28_11 := fz_ BK310 11; have hfz28_12 := fz_ BK310 12) | (go_at_call 42; (with_reducible refine (impl_IsOrient.calls a0_6 a0_7 false _ A4.out).mono ?_); rintro e w29 ⟨rfl, hb⟩; have n0_ := Aside0.mk (lb_ BK310 hb); have n1_ := Aside0.mk (below_step (bb1_ HB GE310) hb); clear BK310; clear HB; have BK310 := n0_; have HB := n1_; clear n0_ n1_; (try clear hb); (try clear hb2); (try clear hk); (try clear hi)))
   go_ret
   exact ⟨by first | rfl | (simp [errW_none, errW_some] <;> rfl) | (simp [*, errW_none, errW_some] <;> rfl), bb1_ HB GE310⟩
 ·replace c3 := Bool.eq_false_iff.mpr c3
  subst c3
  have H1 : (some false) = some r := by rw [if_neg (show ¬ (false = true) by decide)] at H; exact H
  clear H
  have H := H1
  clear H1
  obtain rfl := Option.some.inj H
  go_enter Try.func27, Try.ntmps27
  go_wp2_with (first | ((with_reducible refine gate_dst (N := 1) rfl ?_); refine box_event ?hg (N := 1) ?hd (cs := #[.int .i64 a0_0, .int .i64 a0_1, .int .i64 a0_2, .int .i64 a0_3, .int .i64 a0_4, .bool a0_5, .int .i64 a0_6, .int .i64 a0_7, .int .i64 a0_8, .int .i64 a0_9, .bool a0_10, .string a0_11, .int .i64 a0_12]) (t := 47) ?hr ?_; (case hd => rfl); (case hg => rfl); (case hr => first | (go_simp; done) | (go_simp; rfl)); intro gb310 hg w30 hbox hb; have n0_ := Aside0.mk (bt_ HB hb); have n1_ := Aside0.mk (hbox); have n2_ := gz_ hg HB; have n3_ := gz_ hg HB; clear HB; have HB := n0_; have BK310 := n1_; have GW310 := n2_; have GE310 := n3_; clear n0_ n1_ n2_ n3_; clear hb hbox hg; have hcz31_0 := cz0_ BK310; have hcz31_1 := cz1_ BK310; have hcz31_2 := cz2_ BK310; have hcz31_3 := cz3_ BK310; have hcz31_4 : w30.cell? ⟨gb310, 4, none⟩ = some (.int .i64 a0_4) := (blk_cell BK310.out 4).trans rfl; have hcz31_5 : w30.cell? ⟨gb310, 5, none⟩ = some (.bool a0_5) := (blk_cell BK310.out 5).trans rfl; have hcz31_6 : w30.cell? ⟨gb310, 6, none⟩ = some (.int .i64 a0_6) := (blk_cell BK310.out 6).trans rfl; have hcz31_7 : w30.cell? ⟨gb310, 7, none⟩ = some (.int .i64 a0_7) := (blk_cell BK310.out 7).trans rfl; have hcz31_8 : w30.cell? ⟨gb310, 8, none⟩ = some (.int .i64 a0_8) := (blk_cell BK310.out 8).trans rfl; have hcz31_9 : w30.cell? ⟨gb310, 9, none⟩ = some (.int .i64 a0_9) := (blk_cell BK310.out 9).trans rfl; have hcz31_10 : w30.cell? ⟨gb310, 10, none⟩ = some (.bool a0_10) := (blk_cell BK310.out 10).trans rfl; have hcz31_11 : w30.cell? ⟨gb310, 11, none⟩ = some (.string a0_11) := (blk_cell BK310.out 11).trans rfl; have hcz31_12 : w30.cell? ⟨gb310, 12, none⟩ = some (.int .i64 a0_12) := (blk_cell BK310.out 12).trans rfl; have hfz31_0 := fz_ BK310 0; have hfz31_1 := fz_ BK310 1; have hfz31_2 := fz_ BK310 2; have hfz31_3 := fz_ BK310 3; have hfz31_4 := fz_ BK310 4; have hfz31_5 := fz_ BK310 5; have hfz31_6 := fz_ BK310 6; have hfz31_7 := fz_ BK310 7; have hfz31_8 := fz_ BK310 8; have hfz31_9 := fz_ BK310 9; have hfz31_10 := fz_ BK310 10; have hfz31_11 := fz_ BK310 11; have hfz31_12 := fz_ BK310 12) | ((with_reducible refine gate_callee (f := 41) rfl ?_); refine goesL_ (some 5) rfl rfl Try.func41 (by kernel_rfl) rfl #[.agg #[.int .i64 a0_0, .int .i64 a0_1, .int .i64 a0_2, .int .i64 a0_3, .int .i64 a0_4, .bool a0_5]] rfl args_ ?_; (with_reducible refine (impl_IsShape.calls a0_0 a0_1 a0_2 a0_3 a0_4 a0_5 false _ A2.out).mono ?_); rintro e w32 ⟨rfl, hb⟩; refine ⟨_, rfl, ?_⟩; have n0_ := Aside0.mk (lb_ BK310 hb); have n1_ := Aside0.mk (below_step (bb1_ HB GE310) hb); clear BK310; clear HB; have BK310 := n0_; have HB := n1_; clear n0_ n1_; (try clear hb); (try clear hb2); (try clear hk); (try clear hi)))
  go_ret
  exact ⟨by first | rfl | (simp [errW_none, errW_some] <;> rfl) | (simp [*, errW_none, errW_some] <;> rfl), bb1_ HB GE310⟩

/-! ### impl_distance: function 63 -/
def impl_distance.f (a0 : Int) (a1 : Int) : Option (Int) := some (mx (wrap64 (a0 - a1)) (wrap64 (a1 - a0)))
set_option maxHeartbeats 8000000 in
set_option maxRecDepth 100000 in
theorem impl_distance.calls (a0 : Int) (a1 : Int) (r : Int) (w : World) (h : impl_distance.f a0 a1 = some r) :
  Calls Try.prog 63 #[.int .i64 a0, .int .i64 a1] w fun e w' => e = .returned (.int .i64 r) ∧ Below w.heap.size w w' := by
 have HB := Aside0.mk (Below.refl w.heap.size w)
 have H : (some (mx (wrap64 (a0 - a1)) (wrap64 (a1 - a0)))) = some r := h
 clear h
 obtain ⟨ji3, hji3⟩ : ∃ j_ : Int, (mx (wrap64 (a0 - a1)) (wrap64 (a1 - a0))) = j_ := ⟨_, rfl⟩
 replace H : (some ji3) = some r := by first | (rw [hji3] at H; exact H) | (simp only [hji3] at H ⊢; exact H)
 have hji3_ : (if (wrap64 (a0 - a1)) < (wrap64 (a1 - a0)) then (wrap64 (a1 - a0)) else (wrap64 (a0 - a1))) = ji3 := hji3
 obtain rfl := Option.some.inj H
 go_enter Try.func63, Try.ntmps63
 go_wp2
 go_ret
 exact ⟨by first | rfl | (simp [errW_none, errW_some] <;> rfl) | (simp only [← hji3]; first | rfl | (simp [errW_none, errW_some] <;> rfl)) | (simp [*, errW_none, errW_some] <;> rfl), bb_ HB⟩

/-! ### impl_Shape_distance: function 44 -/
def impl_Shape_distance.l0 : Nat → Int → List Int → Int → Int → Int → Int → Int → Int → Int → Bool → Int → Int → Int → Int → Int → Bool → Option (Int)
 | 0, _, _, _, _, _, _, _, _, _, _, _, _, _, _, _, _ => none
 | k + 1, x5, x9, x10, x11, x316000, x316001, x316002, x316003, x316004, x316005, x317000, x317001, x317002, x317003, x317004, x317005 => if x11 < x10 then (if 0 ≤ x11 then (if x11 < (x9.length : Int) then ((impl_Shape_bends.f x317000 x317001 x317002 x317003 x317004 x317005).bind fun t321 => (if x11 < (t321.length : Int) then ((impl_distance.f (rd x9 x11) (rd t321 x11)).bind fun t325 => (impl_Shape_distance.l0 k (wrap64 (x5 + t325)) x9 x10 (wrap64 (x11 + 1)) x316000 x316001 x316002 x316003 x316004 x316005 x317000 x317001 x317002 x317003 x317004 x317005)) else (none))) else (none)) else (none)) else (if x316000 = x317000 then (if (x316005 != x317005) = true then (some (wrap64 (x5 + 1))) else (some x5)) else (if (x316005 != x317005) = true then (some (wrap64 ((wrap64 (x5 + 1)) + 1))) else (some (wrap64 (x5 + 1)))))
def impl_Shape_distance.f (k : Nat) (a0_0 : Int) (a0_1 : Int) (a0_2 : Int) (a0_3 : Int) (a0_4 : Int) (a0_5 : Bool) (a1_0 : Int) (a1_1 : Int) (a1_2 : Int) (a1_3 : Int) (a1_4 : Int) (a1_5 : Bool) : Option (Int) := (impl_Shape_bends.f a0_0 a0_1 a0_2 a0_3 a0_4 a0_5).bind fun t317 => (impl_Shape_distance.l0 k 0 t317 (t317.length : Int) 0 a0_0 a0_1 a0_2 a0_3 a0_4 a0_5 a1_0 a1_1 a1_2 a1_3 a1_4 a1_5)
theorem impl_Shape_distance.mono_l : ∀ k, (∀ y0 y1 y2 y3 y4 y5 y6 y7 y8 y9 y10 y11 y12 y13 y14 y15, LeO (impl_Shape_distance.l0 k y0 y1 y2 y3 y4 y5 y6 y7 y8 y9 y10 y11 y12 y13 y14 y15) (impl_Shape_distance.l0 (k + 1) y0 y1 y2 y3 y4 y5 y6 y7 y8 y9 y10 y11 y12 y13 y14 y15))
 | 0 => fun _ _ _ _ _ _ _ _ _ _ _ _ _ _ _ _ r h => by simp [impl_Shape_distance.l0] at h
 | k + 1 => by
  have ih0 := impl_Shape_distance.mono_l k
  ·intro y0 y1 y2 y3 y4 y5 y6 y7 y8 y9 y10 y11 y12 y13 y14 y15
   unfold impl_Shape_distance.l0
   repeat' first
   | (with_reducible exact ih0 _ _ _ _ _ _ _ _ _ _ _ _ _ _ _ _)
   | (with_reducible exact LeO.refl _)
   | (with_reducible exact LeO.none _)
   | (with_reducible refine LeO.ite ?_ ?_)
   | (with_reducible refine LeO.bind ?_ (fun _ => ?_))
   | exact ih0 _ _ _ _ _ _ _ _ _ _ _ _ _ _ _ _
   | exact LeO.none _
   | refine LeO.ite ?_ ?_
   | refine LeO.bind ?_ (fun _ => ?_)
theorem impl_Shape_distance.mono : ∀ a0 a1 a2 a3 a4 a5 a6 a7 a8 a9 a10 a11 k, LeO (impl_Shape_distance.f k a0 a1 a2 a3 a4 a5 a6 a7 a8 a9 a10 a11) (impl_Shape_distance.f (k + 1) a0 a1 a2 a3 a4 a5 a6 a7 a8 a9 a10 a11) := by
 intro a0 a1 a2 a3 a4 a5 a6 a7 a8 a9 a10 a11 k
 have ih0 := impl_Shape_distance.mono_l k
 unfold impl_Shape_distance.f
 repeat' first
   | (with_reducible exact ih0 _ _ _ _ _ _ _ _ _ _ _ _ _ _ _ _)
   | (with_reducible exact LeO.refl _)
   | (with_reducible exact LeO.none _)
   | (with_reducible refine LeO.ite ?_ ?_)
   | (with_reducible refine LeO.bind ?_ (fun _ => ?_))
   | exact ih0 _ _ _ _ _ _ _ _ _ _ _ _ _ _ _ _
   | exact LeO.none _
   | refine LeO.ite ?_ ?_
   | refine LeO.bind ?_ (fun _ => ?_)
set_option maxHeartbeats 8000000 in
set_option maxRecDepth 100000 in
theorem impl_Shape_distance.calls (k : Nat) (a0_0 : Int) (a0_1 : Int) (a0_2 : Int) (a0_3 : Int) (a0_4 : Int) (a0_5 : Bool) (a1_0 : Int) (a1_1 : Int) (a1_2 : Int) (a1_3 : Int) (a1_4 : Int) (a1_5 : Bool) (r : Int) (w : World) (h : impl_Shape_distance.f k a0_0 a0_1 a0_2 a0_3 a0_4 a0_5 a1_0 a1_1 a1_2 a1_3 a1_4 a1_5 = some r) :
  Calls Try.prog 44 #[.agg #[.int .i64 a0_0, .int .i64 a0_1, .int .i64 a0_2, .int .i64 a0_3, .int .i64 a0_4, .bool a0_5], .agg #[.int .i64 a1_0, .int .i64 a1_1, .int .i64 a1_2, .int .i64 a1_3, .int .i64 a1_4, .bool a1_5]] w fun e w' => e = .returned (.int .i64 r) ∧ Below w.heap.size w w' := by
 have hu43 := Try.underlying43
 have HB := Aside0.mk (Below.refl w.heap.size w)
 have H : ((impl_Shape_bends.f a0_0 a0_1 a0_2 a0_3 a0_4 a0_5).bind fun t317 => (impl_Shape_distance.l0 k 0 t317 (t317.length : Int) 0 a0_0 a0_1 a0_2 a0_3 a0_4 a0_5 a1_0 a1_1 a1_2 a1_3 a1_4 a1_5)) = some r := h
 clear h
 replace H := Option.bind_eq_some_iff.mp H
 obtain ⟨t317, A30, H⟩ := H
 try dsimp only at H
 have A3 := Aside0.mk A30
 clear A30
 have H' := Aside0.mk H
 clear H
 go_enter Try.func44, Try.ntmps44
 go_wp2_with (first | ((with_reducible refine gate_dst (N := 2) rfl ?_); refine box_event ?hg (N := 2) ?hd (cs := #[.int .i64 a0_0, .int .i64 a0_1, .int .i64 a0_2, .int .i64 a0_3, .int .i64 a0_4, .bool a0_5]) (t := 43) ?hr ?_; (case hd => rfl); (case hg => rfl); (case hr => first | (go_simp; done) | (go_simp; rfl)); intro gb315 hg w4 hbox hb; have n0_ := Aside0.mk (bt_ HB hb); have n1_ := Aside0.mk (hbox); have n2_ := gz_ hg HB; have n3_ := gz_ hg HB; clear HB; have HB := n0_; have BK315 := n1_; have GW315 := n2_; have GE315 := n3_; clear n0_ n1_ n2_ n3_; clear hb hbox hg) | ((with_reducible refine gate_dst (N := 3) rfl ?_); refine box_event ?hg (N := 3) ?hd (cs := #[.int .i64 a1_0, .int .i64 a1_1, .int .i64 a1_2, .int .i64 a1_3, .int .i64 a1_4, .bool a1_5]) (t := 43) ?hr ?_; (case hd => rfl); (case hg => rfl); (case hr => first | (go_simp; done) | (go_simp; rfl)); intro gb316 hg w5 hbox hb; have n0_ := Aside0.mk (lb_ BK315 hb); have n1_ := Aside0.mk (below_step (bb1_ HB GE315) hb); have n2_ := Aside0.mk (hbox); have n3_ := gy_ hg (bb1_ HB GE315); have n4_ := gy_ hg (bb1_ HB GE315); have n5_ := nl_ hg BK315; have n6_ := ng_ hg BK315; clear BK315; clear HB; have BK315 := n0_; have HB := n1_; have BK316 := n2_; have GW316 := n3_; have GE316 := n4_; have NB315_316 := n5_; have NB316_315 := n6_; clear n0_ n1_ n2_ n3_ n4_ n5_ n6_; clear hb hbox hg; have hnb6 := NB315_316.out; have hnc6 := NB316_315.out; have hcz7_0 := cz0_ BK315; have hcz7_1 := cz1_ BK315; have hcz7_2 := cz2_ BK315; have hcz7_3 := cz3_ BK315; have hcz7_4 : w5.cell? ⟨gb315, 4, none⟩ = some (.int .i64 a0_4) := (blk_cell BK315.out 4).trans rfl; have hcz7_5 : w5.cell? ⟨gb315, 5, none⟩ = some (.bool a0_5) := (blk_cell BK315.out 5).trans rfl; have hfz7_0 := fz_ BK315 0; have hfz7_1 := fz_ BK315 1; have hfz7_2 := fz_ BK315 2; have hfz7_3 := fz_ BK315 3; have hfz7_4 := fz_ BK315 4; have hfz7_5 := fz_ BK315 5) | ((with_reducible refine gate_callee (f := 61) rfl ?_); refine goesL_ (some 9) rfl rfl Try.func61 (by kernel_rfl) rfl #[.agg #[.int .i64 a0_0, .int .i64 a0_1, .int .i64 a0_2, .int .i64 a0_3, .int .i64 a0_4, .bool a0_5]] rfl args_ ?_; (with_reducible refine (impl_Shape_bends.calls a0_0 a0_1 a0_2 a0_3 a0_4 a0_5 t317 _ A3.out).mono ?_); rintro e w8 ⟨v318, rfl, ho0, hb⟩; refine ⟨_, rfl, ?_⟩; have n0_ := Aside0.mk (Kd.R_lower ho0 (below_size (bb2_ HB GE315 GE316))); have n1_ := Aside0.mk (lb_ BK315 hb); have n2_ := Aside0.mk (lb_ BK316 hb); have n3_ := Aside0.mk (below_step (bb2_ HB GE315 GE316) hb); clear BK315; clear BK316; clear HB; have HO319 := n0_; have BK315 := n1_; have BK316 := n2_; have HB := n3_; clear n0_ n1_ n2_ n3_; (try clear hb); (try clear hb2); (try clear hk); (try clear hi); (try clear ho0); obtain ⟨Ao9, co9, eo9⟩ := Kd.R_slice HO319.out; subst eo9))
 go_loopg [5, 11] k (fun kq v5 v11 w' => ∃ (x5_1 : Int) (x11_1 : Int), v5 = .int .i64 x5_1 ∧ v11 = .int .i64 x11_1 ∧ Aside0 (impl_Shape_distance.l0 kq x5_1 t317 (t317.length : Int) x11_1 a0_0 a0_1 a0_2 a0_3 a0_4 a0_5 a1_0 a1_1 a1_2 a1_3 a1_4 a1_5 = some r) ∧ Aside0 (kq ≤ k) ∧ Aside0 (Kd.R (Kd.int .i64) 3 w' w.heap.size (fun _ => True) (.slice Ao9 t317.length co9) t317) ∧ Aside0 (w'.heap[gb315]? = some (.cells #[.int .i64 a0_0, .int .i64 a0_1, .int .i64 a0_2, .int .i64 a0_3, .int .i64 a0_4, .bool a0_5] 43 (0, 0))) ∧ Aside0 (w'.heap[gb316]? = some (.cells #[.int .i64 a1_0, .int .i64 a1_1, .int .i64 a1_2, .int .i64 a1_3, .int .i64 a1_4, .bool a1_5] 43 (0, 0))) ∧ Aside0 (Below w.heap.size w w'))
 case atStart => exact ⟨(0), (0), (by first | rfl | (simp; done) | (simp [*]; done)), (by first | rfl | (simp; done) | (simp [*]; done)), H', ⟨Nat.le_refl _⟩, ⟨by (with_reducible repeat (first | apply rA_ | apply rN_ | apply rD_)); exact HO319.out⟩, ⟨by (with_reducible repeat (first | apply lN_ | apply lD_ | apply lA_)); exact BK315.out⟩, ⟨by (with_reducible repeat (first | apply lN_ | apply lD_ | apply lA_)); exact BK316.out⟩, ⟨bb2_ HB GE315 GE316⟩⟩
 case round =>
  clear H'
  try clear p2
  try clear c4
  try clear c6
  try clear hcz7_0
  try clear hcz7_1
  try clear hcz7_2
  try clear hcz7_3
  try clear hcz7_4
  try clear hcz7_5
  try clear hfz7_0
  try clear hfz7_1
  try clear hfz7_2
  try clear hfz7_3
  try clear hfz7_4
  try clear hfz7_5
  obtain ⟨x5_1, x11_1, rfl, rfl, HA, HK1, HO_9, BK315, BK316, HB⟩ := hrel
  cases gk with
  | zero => exact absurd HA.out (by simp [impl_Shape_distance.l0])
  | succ k1 =>
   have H := HA.out
   clear HA
   simp only [impl_Shape_distance.l0] at H
   by_cases c10 : x11_1 < (t317.length : Int)
   ·rw [if_pos c10] at H
    have c10b0 : decide (x11_1 < (t317.length : Int)) = true := decide_eq_true c10
    clear c10
    by_cases c11 : 0 ≤ x11_1
    ·rw [if_pos c11] at H
     have c11b0 : decide (0 ≤ x11_1) = true := decide_eq_true c11
     clear c11
     by_cases c12 : x11_1 < (t317.length : Int)
     ·rw [if_pos c12] at H
      have c12b0 : decide (x11_1 < (t317.length : Int)) = true := decide_eq_true c12
      clear c12
      replace H := Option.bind_eq_some_iff.mp H
      obtain ⟨t321, A130, H⟩ := H
      try dsimp only at H
      have A13 := Aside0.mk A130
      clear A130
      by_cases c14 : x11_1 < (t321.length : Int)
      ·rw [if_pos c14] at H
       have c14b0 : decide (x11_1 < (t321.length : Int)) = true := decide_eq_true c14
       clear c14
       replace H := Option.bind_eq_some_iff.mp H
       obtain ⟨t325, A150, H⟩ := H
       try dsimp only at H
       have A15 := Aside0.mk A150
       clear A150
       have H' := Aside0.mk H
       clear H
       have p320 : 0 ≤ (x11_1 : Int) := of_decide_eq_true as_
       have q320 : x11_1 < (t317.length : Int) := of_decide_eq_true as_
       obtain ⟨ad320, e320, hx320_0⟩ := Kd.at_int (Kd.R_reads' HO_9.out).2.2 x11_1 p320 q320
       cases e320
       replace p320 := eq_true p320
       replace q320 := eq_true q320
       have hnb16 := NB316_315.out
       have hnc16 := NB315_316.out
       have hcz17_0 := cz0_ BK316
       have hcz17_1 := cz1_ BK316
       have hcz17_2 := cz2_ BK316
       have hcz17_3 := cz3_ BK316
       have hcz17_4 : wr.cell? ⟨gb316, 4, none⟩ = some (.int .i64 a1_4) := (blk_cell BK316.out 4).trans rfl
       have hcz17_5 : wr.cell? ⟨gb316, 5, none⟩ = some (.bool a1_5) := (blk_cell BK316.out 5).trans rfl
       have hfz17_0 := fz_ BK316 0
       have hfz17_1 := fz_ BK316 1
       have hfz17_2 := fz_ BK316 2
       have hfz17_3 := fz_ BK316 3
       have hfz17_4 := fz_ BK316 4
       have hfz17_5 := fz_ BK316 5
       go_wp2_with (first | ((with_reducible refine gate_callee (f := 61) rfl ?_); refine goesL_ (some 19) rfl rfl Try.func61 (by kernel_rfl) rfl #[.agg #[.int .i64 a1_0, .int .i64 a1_1, .int .i64 a1_2, .int .i64 a1_3, .int .i64 a1_4, .bool a1_5]] rfl args_ ?_; (with_reducible refine (impl_Shape_bends.calls a1_0 a1_1 a1_2 a1_3 a1_4 a1_5 t321 _ A13.out).mono ?_); rintro e w18 ⟨v322, rfl, ho0, hb⟩; refine ⟨_, rfl, ?_⟩; have n0_ := Aside0.mk (Kd.R_elder' (ra_ HO_9) (Kd.R_base ho0) hb); have n1_ := Aside0.mk (Kd.R_lower (Kd.R_new' ho0 (Kd.R_lt (ra_ HO_9))) (below_size (bb2_ HB GE315 GE316))); have n2_ := Aside0.mk (lb_ BK315 hb); have n3_ := Aside0.mk (lb_ BK316 hb); have n4_ := Aside0.mk (below_step (bb2_ HB GE315 GE316) hb); clear HO_9; clear BK315; clear BK316; clear HB; have HO_9 := n0_; have HO323 := n1_; have BK315 := n2_; have BK316 := n3_; have HB := n4_; clear n0_ n1_ n2_ n3_ n4_; (try clear hb); (try clear hb2); (try clear hk); (try clear hi); (try clear ho0); obtain ⟨Ao19, co19, eo19⟩ := Kd.R_slice HO323.out; subst eo19; have p324 : 0 ≤ (x11_1 : Int) := of_decide_eq_true as_; have q324 : x11_1 < (t321.length : Int) := of_decide_eq_true as_; obtain ⟨ad324, e324, hx324_0⟩ := Kd.at_int (Kd.R_reads' HO323.out).2.2 x11_1 p324 q324; cases e324; replace p324 := eq_true p324; replace q324 := eq_true q324) | ((with_reducible refine gate_callee (f := 63) rfl ?_); refine goesL_ (some 23) rfl rfl Try.func63 (by kernel_rfl) rfl #[.int .i64 (rd t317 x11_1), .int .i64 (rd t321 x11_1)] rfl args_ ?_; (with_reducible refine (impl_distance.calls (rd t317 x11_1) (rd t321 x11_1) t325 _ A15.out).mono ?_); rintro e w20 ⟨rfl, hb⟩; refine ⟨_, rfl, ?_⟩; have n0_ := Aside0.mk (Kd.R_below (ra_ HO_9) hb); have n1_ := Aside0.mk (Kd.R_below (ra_ HO323) hb); have n2_ := Aside0.mk (lb_ BK315 hb); have n3_ := Aside0.mk (lb_ BK316 hb); have n4_ := Aside0.mk (below_step (bb2_ HB GE315 GE316) hb); clear HO_9; clear HO323; clear BK315; clear BK316; clear HB; have HO_9 := n0_; have HO323 := n1_; have BK315 := n2_; have BK316 := n3_; have HB := n4_; clear n0_ n1_ n2_ n3_ n4_; (try clear hb); (try clear hb2); (try clear hk); (try clear hi)))
       go_roundg k1
       case measure => have := HK1.out; omega
       case rel => exact ⟨(wrap64 (x5_1 + t325)), (wrap64 (x11_1 + 1)), (by first | rfl | (simp; done) | (simp [*]; done)), (by first | rfl | (simp; done) | (simp [*]; done)), H', ⟨by have := HK1.out; omega⟩, ⟨by (with_reducible repeat (first | apply rA_ | apply rN_ | apply rD_)); exact Kd.R_mono HO_9.out (fun _ hk => trivial)⟩, ⟨by (with_reducible repeat (first | apply lN_ | apply lD_ | apply lA_)); exact BK315.out⟩, ⟨by (with_reducible repeat (first | apply lN_ | apply lD_ | apply lA_)); exact BK316.out⟩, ⟨bb2_ HB GE315 GE316⟩⟩
      ·rw [if_neg c14] at H
       exact absurd H (by simp)
     ·rw [if_neg c12] at H
      exact absurd H (by simp)
    ·rw [if_neg c11] at H
     exact absurd H (by simp)
   ·rw [if_neg c10] at H
    have c10b0 : decide (x11_1 < (t317.length : Int)) = false := decide_eq_false c10
    clear c10
    by_cases c21 : a0_0 = a1_0
    ·rw [if_pos c21] at H
     have c21b0 : (a0_0 == a1_0) = true := beq_iff_eq.mpr c21
     have c21b1 : (a0_0 != a1_0) = false := bne_eq_false_iff_eq.mpr c21
     clear c21
     by_cases c22 : (a0_5 != a1_5) = true
     ·rw [if_pos c22] at H
      have c22b0 : (a0_5 != a1_5) = true := c22
      (try (have c22b1 : decide (a0_5 = a1_5) = false := by simpa using c22))
      (try (have c22b2 : (a0_5 == a1_5) = false := by simpa using c22))
      (try (have c22b3 : ¬ (a0_5 = a1_5) := by simpa using c22))
      clear c22
      obtain rfl := Option.some.inj H
      have hnb23 := NB315_316.out
      have hnc23 := NB316_315.out
      have hcz24_0 := cz0_ BK315
      have hcz24_1 := cz1_ BK315
      have hcz24_2 := cz2_ BK315
      have hcz24_3 := cz3_ BK315
      have hcz24_4 : wr.cell? ⟨gb315, 4, none⟩ = some (.int .i64 a0_4) := (blk_cell BK315.out 4).trans rfl
      have hcz24_5 : wr.cell? ⟨gb315, 5, none⟩ = some (.bool a0_5) := (blk_cell BK315.out 5).trans rfl
      have hfz24_0 := fz_ BK315 0
      have hfz24_1 := fz_ BK315 1
      have hfz24_2 := fz_ BK315 2
      have hfz24_3 := fz_ BK315 3
      have hfz24_4 := fz_ BK315 4
      have hfz24_5 := fz_ BK315 5
      have hcz25_0 := cz0_ BK316
      have hcz25_1 := cz1_ BK316
      have hcz25_2 := cz2_ BK316
      have hcz25_3 := cz3_ BK316
      have hcz25_4 : wr.cell? ⟨gb316, 4, none⟩ = some (.int .i64 a1_4) := (blk_cell BK316.out 4).trans rfl
      have hcz25_5 : wr.cell? ⟨gb316, 5, none⟩ = some (.bool a1_5) := (blk_cell BK316.out 5).trans rfl
      have hfz25_0 := fz_ BK316 0
      have hfz25_1 := fz_ BK316 1
      have hfz25_2 := fz_ BK316 2
      have hfz25_3 := fz_ BK316 3
      have hfz25_4 := fz_ BK316 4
      have hfz25_5 := fz_ BK316 5
      go_wp2
      go_ret
      exact ⟨by first | rfl | (simp [errW_none, errW_some] <;> rfl) | (simp [*, errW_none, errW_some] <;> rfl), bb2_ HB GE315 GE316⟩
     ·rw [if_neg c22] at H
      have c22b0 : (a0_5 != a1_5) = false := by simpa using c22
      (try (have c22b1 : decide (a0_5 = a1_5) = true := by simpa using c22))
      (try (have c22b2 : (a0_5 == a1_5) = true := by simpa using c22))
      clear c22
      obtain rfl := Option.some.inj H
      have hnb26 := NB315_316.out
      have hnc26 := NB316_315.out
      have hcz27_0 := cz0_ BK315
      have hcz27_1 := cz1_ BK315
      have hcz27_2 := cz2_ BK315
      have hcz27_3 := cz3_ BK315
      have hcz27_4 : wr.cell? ⟨gb315, 4, none⟩ = some (.int .i64 a0_4) := (blk_cell BK315.out 4).trans rfl
      have hcz27_5 : wr.cell? ⟨gb315, 5, none⟩ = some (.bool a0_5) := (blk_cell BK315.out 5).trans rfl
      have hfz27_0 := fz_ BK315 0
      have hfz27_1 := fz_ BK315 1
      have hfz27_2 := fz_ BK315 2
      have hfz27_3 := fz_ BK315 3
      have hfz27_4 := fz_ BK315 4
      have hfz27_5 := fz_ BK315 5
      have hcz28_0 := cz0_ BK316
      have hcz28_1 := cz1_ BK316
      have hcz28_2 := cz2_ BK316
      have hcz28_3 := cz3_ BK316
      have hcz28_4 : wr.cell? ⟨gb316, 4, none⟩ = some (.int .i64 a1_4) := (blk_cell BK316.out 4).trans rfl
      have hcz28_5 : wr.cell? ⟨gb316, 5, none⟩ = some (.bool a1_5) := (blk_cell BK316.out 5).trans rfl
      have hfz28_0 := fz_ BK316 0
      have hfz28_1 := fz_ BK316 1
      have hfz28_2 := fz_ BK316 2
      have hfz28_3 := fz_ BK316 3
      have hfz28_4 := fz_ BK316 4
      have hfz28_5 := fz_ BK316 5
      go_wp2
      go_ret
      exact ⟨by first | rfl | (simp [errW_none, errW_some] <;> rfl) | (simp [*, errW_none, errW_some] <;> rfl), bb2_ HB GE315 GE316⟩
    ·rw [if_neg c21] at H
     have c21b0 : (a0_0 == a1_0) = false := beq_eq_false_iff_ne.mpr c21
     have c21b1 : (a0_0 != a1_0) = true := bne_iff_ne.mpr c21
     by_cases c29 : (a0_5 != a1_5) = true
     ·rw [if_pos c29] at H
      have c29b0 : (a0_5 != a1_5) = true := c29
      (try (have c29b1 : decide (a0_5 = a1_5) = false := by simpa using c29))
      (try (have c29b2 : (a0_5 == a1_5) = false := by simpa using c29))
      (try (have c29b3 : ¬ (a0_5 = a1_5) := by simpa using c29))
      clear c29
      obtain rfl := Option.some.inj H
      have hnb30 := NB315_316.out
      have hnc30 := NB316_315.out
      have hcz31_0 := cz0_ BK315
      have hcz31_1 := cz1_ BK315
      have hcz31_2 := cz2_ BK315
      have hcz31_3 := cz3_ BK315
      have hcz31_4 : wr.cell? ⟨gb315, 4, none⟩ = some (.int .i64 a0_4) := (blk_cell BK315.out 4).trans rfl
      have hcz31_5 : wr.cell? ⟨gb315, 5, none⟩ = some (.bool a0_5) := (blk_cell BK315.out 5).trans rfl
      have hfz31_0 := fz_ BK315 0
      have hfz31_1 := fz_ BK315 1
      have hfz31_2 := fz_ BK315 2
      have hfz31_3 := fz_ BK315 3
      have hfz31_4 := fz_ BK315 4
      have hfz31_5 := fz_ BK315 5
      have hcz32_0 := cz0_ BK316
      have hcz32_1 := cz1_ BK316
      have hcz32_2 := cz2_ BK316
      have hcz32_3 := cz3_ BK316
      have hcz32_4 : wr.cell? ⟨gb316, 4, none⟩ = some (.int .i64 a1_4) := (blk_cell BK316.out 4).trans rfl
      have hcz32_5 : wr.cell? ⟨gb316, 5, none⟩ = some (.bool a1_5) := (blk_cell BK316.out 5).trans rfl
      have hfz32_0 := fz_ BK316 0
      have hfz32_1 := fz_ BK316 1
      have hfz32_2 := fz_ BK316 2
      have hfz32_3 := fz_ BK316 3
      have hfz32_4 := fz_ BK316 4
      have hfz32_5 := fz_ BK316 5
      go_wp2
      go_ret
      exact ⟨by first | rfl | (simp [errW_none, errW_some] <;> rfl) | (simp [*, errW_none, errW_some] <;> rfl), bb2_ HB GE315 GE316⟩
     ·rw [if_neg c29] at H
      have c29b0 : (a0_5 != a1_5) = false := by simpa using c29
      (try (have c29b1 : decide (a0_5 = a1_5) = true := by simpa using c29))
      (try (have c29b2 : (a0_5 == a1_5) = true := by simpa using c29))
      clear c29
      obtain rfl := Option.some.inj H
      have hnb33 := NB315_316.out
      have hnc33 := NB316_315.out
      have hcz34_0 := cz0_ BK315
      have hcz34_1 := cz1_ BK315
      have hcz34_2 := cz2_ BK315
      have hcz34_3 := cz3_ BK315
      have hcz34_4 : wr.cell? ⟨gb315, 4, none⟩ = some (.int .i64 a0_4) := (blk_cell BK315.out 4).trans rfl
      have hcz34_5 : wr.cell? ⟨gb315, 5, none⟩ = some (.bool a0_5) := (blk_cell BK315.out 5).trans rfl
      have hfz34_0 := fz_ BK315 0
      have hfz34_1 := fz_ BK315 1
      have hfz34_2 := fz_ BK315 2
      have hfz34_3 := fz_ BK315 3
      have hfz34_4 := fz_ BK315 4
      have hfz34_5 := fz_ BK315 5
      have hcz35_0 := cz0_ BK316
      have hcz35_1 := cz1_ BK316
      have hcz35_2 := cz2_ BK316
      have hcz35_3 := cz3_ BK316
      have hcz35_4 : wr.cell? ⟨gb316, 4, none⟩ = some (.int .i64 a1_4) := (blk_cell BK316.out 4).trans rfl
      have hcz35_5 : wr.cell? ⟨gb316, 5, none⟩ = some (.bool a1_5) := (blk_cell BK316.out 5).trans rfl
      have hfz35_0 := fz_ BK316 0
      have hfz35_1 := fz_ BK316 1
      have hfz35_2 := fz_ BK316 2
      have hfz35_3 := fz_ BK316 3
      have hfz35_4 := fz_ BK316 4
      have hfz35_5 := fz_ BK316 5
      go_wp2
      go_ret
      exact ⟨by first | rfl | (simp [errW_none, errW_some] <;> rfl) | (simp [*, errW_none, errW_some] <;> rfl), bb2_ HB GE315 GE316⟩

/-! ### impl_Place_distance: function 45 -/
def impl_Place_distance.f (a0_0 : Int) (a0_1 : Int) (a0_2 : Bool) (a1_0 : Int) (a1_1 : Int) (a1_2 : Bool) : Option (Int) := (impl_distance.f a0_1 a1_1).bind fun t328 => (if (a0_2 != a1_2) = true then (if ((a0_0 == 0) != (a1_0 == 0)) = true then (some (wrap64 ((wrap64 (t328 + 1)) + 4))) else ((impl_distance.f a0_0 a1_0).bind fun t329 => (some (wrap64 ((wrap64 (t328 + 1)) + t329))))) else (if ((a0_0 == 0) != (a1_0 == 0)) = true then (some (wrap64 (t328 + 4))) else ((impl_distance.f a0_0 a1_0).bind fun t330 => (some (wrap64 (t328 + t330))))))
set_option maxHeartbeats 8000000 in
set_option maxRecDepth 100000 in
theorem impl_Place_distance.calls (a0_0 : Int) (a0_1 : Int) (a0_2 : Bool) (a1_0 : Int) (a1_1 : Int) (a1_2 : Bool) (r : Int) (w : World) (h : impl_Place_distance.f a0_0 a0_1 a0_2 a1_0 a1_1 a1_2 = some r) :
  Calls Try.prog 45 #[.agg #[.int .i64 a0_0, .int .i64 a0_1, .bool a0_2], .agg #[.int .i64 a1_0, .int .i64 a1_1, .bool a1_2]] w fun e w' => e = .returned (.int .i64 r) ∧ Below w.heap.size w w' := by
 have hu45 := Try.underlying45
 have HB := Aside0.mk (Below.refl w.heap.size w)
 have H : ((impl_distance.f a0_1 a1_1).bind fun t328 => (if (a0_2 != a1_2) = true then (if ((a0_0 == 0) != (a1_0 == 0)) = true then (some (wrap64 ((wrap64 (t328 + 1)) + 4))) else ((impl_distance.f a0_0 a1_0).bind fun t329 => (some (wrap64 ((wrap64 (t328 + 1)) + t329))))) else (if ((a0_0 == 0) != (a1_0 == 0)) = true then (some (wrap64 (t328 + 4))) else ((impl_distance.f a0_0 a1_0).bind fun t330 => (some (wrap64 (t328 + t330))))))) = some r := h
 clear h
 replace H := Option.bind_eq_some_iff.mp H
 obtain ⟨t328, A30, H⟩ := H
 try dsimp only at H
 have A3 := Aside0.mk A30
 clear A30
 by_cases c4 : (a0_2 != a1_2) = true
 ·rw [if_pos c4] at H
  have c4b0 : (a0_2 != a1_2) = true := c4
  (try (have c4b1 : decide (a0_2 = a1_2) = false := by simpa using c4))
  (try (have c4b2 : (a0_2 == a1_2) = false := by simpa using c4))
  (try (have c4b3 : ¬ (a0_2 = a1_2) := by simpa using c4))
  clear c4
  by_cases c5 : ((a0_0 == 0) != (a1_0 == 0)) = true
  ·rw [if_pos c5] at H
   have c5b0 : ((a0_0 == 0) != (a1_0 == 0)) = true := c5
   (try (have c5b1 : decide ((a0_0 == 0) = (a1_0 == 0)) = false := by simpa using c5))
   (try (have c5b2 : ((a0_0 == 0) == (a1_0 == 0)) = false := by simpa using c5))
   (try (have c5b3 : ¬ ((a0_0 == 0) = (a1_0 == 0)) := by simpa using c5))
   clear c5
   obtain rfl := Option.some.inj H
   go_enter Try.func45, Try.ntmps45
   go_wp2_with (first | ((with_reducible refine gate_dst (N := 2) rfl ?_); refine box_event ?hg (N := 2) ?hd (cs := #[.int .i64 a0_0, .int .i64 a0_1, .bool a0_2]) (t := 45) ?hr ?_; (case hd => rfl); (case hg => rfl); (case hr => first | (go_simp; done) | (go_simp; rfl)); intro gb326 hg w6 hbox hb; have n0_ := Aside0.mk (bt_ HB hb); have n1_ := Aside0.mk (hbox); have n2_ := gz_ hg HB; have n3_ := gz_ hg HB; clear HB; have HB := n0_; have BK326 := n1_; have GW326 := n2_; have GE326 := n3_; clear n0_ n1_ n2_ n3_; clear hb hbox hg) | ((with_reducible refine gate_dst (N := 3) rfl ?_); refine box_event ?hg (N := 3) ?hd (cs := #[.int .i64 a1_0, .int .i64 a1_1, .bool a1_2]) (t := 45) ?hr ?_; (case hd => rfl); (case hg => rfl); (case hr => first | (go_simp; done) | (go_simp; rfl)); intro gb327 hg w7 hbox hb; have n0_ := Aside0.mk (lb_ BK326 hb); have n1_ := Aside0.mk (below_step (bb1_ HB GE326) hb); have n2_ := Aside0.mk (hbox); have n3_ := gy_ hg (bb1_ HB GE326); have n4_ := gy_ hg (bb1_ HB GE326); have n5_ := nl_ hg BK326; have n6_ := ng_ hg BK326; clear BK326; clear HB; have BK326 := n0_; have HB := n1_; have BK327 := n2_; have GW327 := n3_; have GE327 := n4_; have NB326_327 := n5_; have NB327_326 := n6_; clear n0_ n1_ n2_ n3_ n4_ n5_ n6_; clear hb hbox hg; have hnb8 := NB326_327.out; have hnc8 := NB327_326.out; have hcz9_0 := cz0_ BK326; have hcz9_1 := cz1_ BK326; have hcz9_2 := cz2_ BK326; have hfz9_0 := fz_ BK326 0; have hfz9_1 := fz_ BK326 1; have hfz9_2 := fz_ BK326 2; have hcz10_0 := cz0_ BK327; have hcz10_1 := cz1_ BK327; have hcz10_2 := cz2_ BK327; have hfz10_0 := fz_ BK327 0; have hfz10_1 := fz_ BK327 1; have hfz10_2 := fz_ BK327 2) | ((with_reducible refine gate_callee (f := 63) rfl ?_); refine goesL_ (some 10) rfl rfl Try.func63 (by kernel_rfl) rfl #[.int .i64 a0_1, .int .i64 a1_1] rfl args_ ?_; (with_reducible refine (impl_distance.calls a0_1 a1_1 t328 _ A3.out).mono ?_); rintro e w11 ⟨rfl, hb⟩; refine ⟨_, rfl, ?_⟩; have n0_ := Aside0.mk (lb_ BK326 hb); have n1_ := Aside0.mk (lb_ BK327 hb); have n2_ := Aside0.mk (below_step (bb2_ HB GE326 GE327) hb); clear BK326; clear BK327; clear HB; have BK326 := n0_; have BK327 := n1_; have HB := n2_; clear n0_ n1_ n2_; (try clear hb); (try clear hb2); (try clear hk); (try clear hi); have hcz12_0 := cz0_ BK326; have hcz12_1 := cz1_ BK326; have hcz12_2 := cz2_ BK326; have hfz12_0 := fz_ BK326 0; have hfz12_1 := fz_ BK326 1; have hfz12_2 := fz_ BK326 2; have hcz13_0 := cz0_ BK327; have hcz13_1 := cz1_ BK327; have hcz13_2 := cz2_ BK327; have hfz13_0 := fz_ BK327 0; have hfz13_1 := fz_ BK327 1; have hfz13_2 := fz_ BK327 2))
   go_ret
   exact ⟨by first | rfl | (simp [errW_none, errW_some] <;> rfl) | (simp [*, errW_none, errW_some] <;> rfl), bb2_ HB GE326 GE327⟩
  ·rw [if_neg c5] at H
   have c5b0 : ((a0_0 == 0) != (a1_0 == 0)) = false := by simpa using c5
   (try (have c5b1 : decide ((a0_0 == 0) = (a1_0 == 0)) = true := by simpa using c5))
   (try (have c5b2 : ((a0_0 == 0) == (a1_0 == 0)) = true := by simpa using c5))
   clear c5
   replace H := Option.bind_eq_some_iff.mp H
   obtain ⟨t329, A140, H⟩ := H
   try dsimp only at H
   have A14 := Aside0.mk A140
   clear A140
   obtain rfl := Option.some.inj H
   go_enter Try.func45, Try.ntmps45
   go_wp2_with (first | ((with_reducible refine gate_dst (N := 2) rfl ?_); refine box_event ?hg (N := 2) ?hd (cs := #[.int .i64 a0_0, .int .i64 a0_1, .bool a0_2]) (t := 45) ?hr ?_; (case hd => rfl); (case hg => rfl); (case hr => first | (go_simp; done) | (go_simp; rfl)); intro gb326 hg w15 hbox hb; have n0_ := Aside0.mk (bt_ HB hb); have n1_ := Aside0.mk (hbox); have n2_ := gz_ hg HB; have n3_ := gz_ hg HB; clear HB; have HB := n0_; have BK326 := n1_; have GW326 := n2_; have GE326 := n3_; clear n0_ n1_ n2_ n3_; clear hb hbox hg) | ((with_reducible refine gate_dst (N := 3) rfl ?_); refine box_event ?hg (N := 3) ?hd (cs := #[.int .i64 a1_0, .int .i64 a1_1, .bool a1_2]) (t := 45) ?hr ?_; (case hd => rfl); (case hg => rfl); (case hr => first | (go_simp; done) | (go_simp; rfl)); intro gb327 hg w16 hbox hb; have n0_ := Aside0.mk (lb_ BK326 hb); have n1_ := Aside0.mk (below_step (bb1_ HB GE326) hb); have n2_ := Aside0.mk (hbox); have n3_ := gy_ hg (bb1_ HB GE326); have n4_ := gy_ hg (bb1_ HB GE326); have n5_ := nl_ hg BK326; have n6_ := ng_ hg BK326; clear BK326; clear HB; have BK326 := n0_; have HB := n1_; have BK327 := n2_; have GW327 := n3_; have GE327 := n4_; have NB326_327 := n5_; have NB327_326 := n6_; clear n0_ n1_ n2_ n3_ n4_ n5_ n6_; clear hb hbox hg; have hnb17 := NB326_327.out; have hnc17 := NB327_326.out; have hcz18_0 := cz0_ BK326; have hcz18_1 := cz1_ BK326; have hcz18_2 := cz2_ BK326; have hfz18_0 := fz_ BK326 0; have hfz18_1 := fz_ BK326 1; have hfz18_2 := fz_ BK326 2; have hcz19_0 := cz0_ BK327; have hcz19_1 := cz1_ BK327; have hcz19_2 := cz2_ BK327; have hfz19_0 := fz_ BK327 0; have hfz19_1 := fz_ BK327 1; have hfz19_2 := fz_ BK327 2) | ((with_reducible refine gate_callee (f := 63) rfl ?_); refine goesL_ (some 10) rfl rfl Try.func63 (by kernel_rfl) rfl #[.int .i64 a0_1, .int .i64 a1_1] rfl args_ ?_; (with_reducible refine (impl_distance.calls a0_1 a1_1 t328 _ A3.out).mono ?_); rintro e w20 ⟨rfl, hb⟩; refine ⟨_, rfl, ?_⟩; have n0_ := Aside0.mk (lb_ BK326 hb); have n1_ := Aside0.mk (lb_ BK327 hb); have n2_ := Aside0.mk (below_step (bb2_ HB GE326 GE327) hb); clear BK326; clear BK327; clear HB; have BK326 := n0_; have BK327 := n1_; have HB := n2_; clear n0_ n1_ n2_; (try clear hb); (try clear hb2); (try clear hk); (try clear hi); have hcz21_0 := cz0_ BK326; have hcz21_1 := cz1_ BK326; have hcz21_2 := cz2_ BK326; have hfz21_0 := fz_ BK326 0; have hfz21_1 := fz_ BK326 1; have hfz21_2 := fz_ BK326 2; have hcz22_0 := cz0_ BK327; have hcz22_1 := cz1_ BK327; have hcz22_2 := cz2_ BK327; have hfz22_0 := fz_ BK327 0; have hfz22_1 := fz_ BK327 1; have hfz22_2 := fz_ BK327 2) | ((with_reducible refine gate_callee (f := 63) rfl ?_); refine goesL_ (some 32) rfl rfl Try.func63 (by kernel_rfl) rfl #[.int .i64 a0_0, .int .i64 a1_0] rfl args_ ?_; (with_reducible refine (impl_distance.calls a0_0 a1_0 t329 _ A14.out).mono ?_); rintro e w23 ⟨rfl, hb⟩; refine ⟨_, rfl, ?_⟩; have n0_ := Aside0.mk (lb_ BK326 hb); have n1_ := Aside0.mk (lb_ BK327 hb); have n2_ := Aside0.mk (below_step (bb2_ HB GE326 GE327) hb); clear BK326; clear BK327; clear HB; have BK326 := n0_; have BK327 := n1_; have HB := n2_; clear n0_ n1_ n2_; (try clear hb); (try clear hb2); (try clear hk); (try clear hi)))
   go_ret
   exact ⟨by first | rfl | (simp [errW_none, errW_some] <;> rfl) | (simp [*, errW_none, errW_some] <;> rfl), bb2_ HB GE326 GE327⟩
 ·rw [if_neg c4] at H
  have c4b0 : (a0_2 != a1_2) = false := by simpa using c4
  (try (have c4b1 : decide (a0_2 = a1_2) = true := by simpa using c4))
  (try (have c4b2 : (a0_2 == a1_2) = true := by simpa using c4))
  clear c4
  by_cases c24 : ((a0_0 == 0) != (a1_0 == 0)) = true
  ·rw [if_pos c24] at H
   have c24b0 : ((a0_0 == 0) != (a1_0 == 0)) = true := c24
   (try (have c24b1 : decide ((a0_0 == 0) = (a1_0 == 0)) = false := by simpa using c24))
   (try (have c24b2 : ((a0_0 == 0) == (a1_0 == 0)) = false := by simpa using c24))
   (try (have c24b3 : ¬ ((a0_0 == 0) = (a1_0 == 0)) := by simpa using c24))
   clear c24
   obtain rfl := Option.some.inj H
   go_enter Try.func45, Try.ntmps45
   go_wp2_with (first | ((with_reducible refine gate_dst (N := 2) rfl ?_); refine box_event ?hg (N := 2) ?hd (cs := #[.int .i64 a0_0, .int .i64 a0_1, .bool a0_2]) (t := 45) ?hr ?_; (case hd => rfl); (case hg => rfl); (case hr => first | (go_simp; done) | (go_simp; rfl)); intro gb326 hg w25 hbox hb; have n0_ := Aside0.mk (bt_ HB hb); have n1_ := Aside0.mk (hbox); have n2_ := gz_ hg HB; have n3_ := gz_ hg HB; clear HB; have HB := n0_; have BK326 := n1_; have GW326 := n2_; have GE326 := n3_; clear n0_ n1_ n2_ n3_; clear hb hbox hg) | ((with_reducible refine gate_dst (N := 3) rfl ?_); refine box_event ?hg (N := 3) ?hd (cs := #[.int .i64 a1_0, .int .i64 a1_1, .bool a1_2]) (t := 45) ?hr ?_; (case hd => rfl); (case hg => rfl); (case hr => first | (go_simp; done) | (go_simp; rfl)); intro gb327 hg w26 hbox hb; have n0_ := Aside0.mk (lb_ BK326 hb); have n1_ := Aside0.mk (below_step (bb1_ HB GE326) hb); have n2_ := Aside0.mk (hbox); have n3_ := gy_ hg (bb1_ HB GE326); have n4_ := gy_ hg (bb1_ HB GE326); have n5_ := nl_ hg BK326; have n6_ := ng_ hg BK326; clear BK326; clear HB; have BK326 := n0_; have HB := n1_; have BK327 := n2_; have GW327 := n3_; have GE327 := n4_; have NB326_327 := n5_; have NB327_326 := n6_; clear n0_ n1_ n2_ n3_ n4_ n5_ n6_; clear hb hbox hg; have hnb27 := NB326_327.out; have hnc27 := NB327_326.out; have hcz28_0 := cz0_ BK326; have hcz28_1 := cz1_ BK326; have hcz28_2 := cz2_ BK326; have hfz28_0 := fz_ BK326 0; have hfz28_1 := fz_ BK326 1; have hfz28_2 := fz_ BK326 2; have hcz29_0 := cz0_ BK327; have hcz29_1 := cz1_ BK327; have hcz29_2 := cz2_ BK327; have hfz29_0 := fz_ BK327 0; have hfz29_1 := fz_ BK327 1; have hfz29_2 := fz_ BK327 2) | ((with_reducible refine gate_callee (f := 63) rfl ?_); refine goesL_ (some 10) rfl rfl Try.func63 (by kernel_rfl) rfl #[.int .i64 a0_1, .int .i64 a1_1] rfl args_ ?_; (with_reducible refine (impl_distance.calls a0_1 a1_1 t328 _ A3.out).mono ?_); rintro e w30 ⟨rfl, hb⟩; refine ⟨_, rfl, ?_⟩; have n0_ := Aside0.mk (lb_ BK326 hb); have n1_ := Aside0.mk (lb_ BK327 hb); have n2_ := Aside0.mk (below_step (bb2_ HB GE326 GE327) hb); clear BK326; clear BK327; clear HB; have BK326 := n0_; have BK327 := n1_; have HB := n2_; clear n0_ n1_ n2_; (try clear hb); (try clear hb2); (try clear hk); (try clear hi); have hcz31_0 := cz0_ BK326; have hcz31_1 := cz1_ BK326; have hcz31_2 := cz2_ BK326; have hfz31_0 := fz_ BK326 0; have hfz31_1 := fz_ BK326 1; have hfz31_2 := fz_ BK326 2; have hcz32_0 := cz0_ BK327; have hcz32_1 := cz1_ BK327; have hcz32_2 := cz2_ BK327; have hfz32_0 := fz_ BK327 0; have hfz32_1 := fz_ BK327 1; have hfz32_2 := fz_ BK327 2))
   go_ret
   exact ⟨by first | rfl | (simp [errW_none, errW_some] <;> rfl) | (simp [*, errW_none, errW_some] <;> rfl), bb2_ HB GE326 GE327⟩
  ·rw [if_neg c24] at H
   have c24b0 : ((a0_0 == 0) != (a1_0 == 0)) = false := by simpa using c24
   (try (have c24b1 : decide ((a0_0 == 0) = (a1_0 == 0)) = true := by simpa using c24))
   (try (have c24b2 : ((a0_0 == 0) == (a1_0 == 0)) = true := by simpa using c24))
   clear c24
   replace H := Option.bind_eq_some_iff.mp H
   obtain ⟨t330, A330, H⟩ := H
   try dsimp only at H
   have A33 := Aside0.mk A330
   clear A330
   obtain rfl := Option.some.inj H
   go_enter Try.func45, Try.ntmps45
   go_wp2_with (first | ((with_reducible refine gate_dst (N := 2) rfl ?_); refine box_event ?hg (N := 2) ?hd (cs := #[.int .i64 a0_0, .int .i64 a0_1, .bool a0_2]) (t := 45) ?hr ?_; (case hd => rfl); (case hg => rfl); (case hr => first | (go_simp; done) | (go_simp; rfl)); intro gb326 hg w34 hbox hb; have n0_ := Aside0.mk (bt_ HB hb); have n1_ := Aside0.mk (hbox); have n2_ := gz_ hg HB; have n3_ := gz_ hg HB; clear HB; have HB := n0_; have BK326 := n1_; have GW326 := n2_; have GE326 := n3_; clear n0_ n1_ n2_ n3_; clear hb hbox hg) | ((with_reducible refine gate_dst (N := 3) rfl ?_); refine box_event ?hg (N := 3) ?hd (cs := #[.int .i64 a1_0, .int .i64 a1_1, .bool a1_2]) (t := 45) ?hr ?_; (case hd => rfl); (case hg => rfl); (case hr => first | (go_simp; done) | (go_simp; rfl)); intro gb327 hg w35 hbox hb; have n0_ := Aside0.mk (lb_ BK326 hb); have n1_ := Aside0.mk (below_step (bb1_ HB GE326) hb); have n2_ := Aside0.mk (hbox); have n3_ := gy_ hg (bb1_ HB GE326); have n4_ := gy_ hg (bb1_ HB GE326); have n5_ := nl_ hg BK326; have n6_ := ng_ hg BK326; clear BK326; clear HB; have BK326 := n0_; have HB := n1_; have BK327 := n2_; have GW327 := n3_; have GE327 := n4_; have NB326_327 := n5_; have NB327_326 := n6_; clear n0_ n1_ n2_ n3_ n4_ n5_ n6_; clear hb hbox hg; have hnb36 := NB326_327.out; have hnc36 := NB327_326.out; have hcz37_0 := cz0_ BK326; have hcz37_1 := cz1_ BK326; have hcz37_2 := cz2_ BK326; have hfz37_0 := fz_ BK326 0; have hfz37_1 := fz_ BK326 1; have hfz37_2 := fz_ BK326 2; have hcz38_0 := cz0_ BK327; have hcz38_1 := cz1_ BK327; have hcz38_2 := cz2_ BK327; have hfz38_0 := fz_ BK327 0; have hfz38_1 := fz_ BK327 1; have hfz38_2 := fz_ BK327 2) | ((with_reducible refine gate_callee (f := 63) rfl ?_); refine goesL_ (some 10) rfl rfl Try.func63 (by kernel_rfl) rfl #[.int .i64 a0_1, .int .i64 a1_1] rfl args_ ?_; (with_reducible refine (impl_distance.calls a0_1 a1_1 t328 _ A3.out).mono ?_); rintro e w39 ⟨rfl, hb⟩; refine ⟨_, rfl, ?_⟩; have n0_ := Aside0.mk (lb_ BK326 hb); have n1_ := Aside0.mk (lb_ BK327 hb); have n2_ := Aside0.mk (below_step (bb2_ HB GE326 GE327) hb); clear BK326; clear BK327; clear HB; have BK326 := n0_; have BK327 := n1_; have HB := n2_; clear n0_ n1_ n2_; (try clear hb); (try clear hb2); (try clear hk); (try clear hi); have hcz40_0 := cz0_ BK326; have hcz40_1 := cz1_ BK326; have hcz40_2 := cz2_ BK326; have hfz40_0 := fz_ BK326 0; have hfz40_1 := fz_ BK326 1; have hfz40_2 := fz_ BK326 2; have hcz41_0 := cz0_ BK327; have hcz41_1 := cz1_ BK327; have hcz41_2 := cz2_ BK327; have hfz41_0 := fz_ BK327 0; have hfz41_1 := fz_ BK327 1; have hfz41_2 := fz_ BK327 2) | ((with_reducible refine gate_callee (f := 63) rfl ?_); refine goesL_ (some 32) rfl rfl Try.func63 (by kernel_rfl) rfl #[.int .i64 a0_0, .int .i64 a1_0] rfl args_ ?_; (with_reducible refine (impl_distance.calls a0_0 a1_0 t330 _ A33.out).mono ?_); rintro e w42 ⟨rfl, hb⟩; refine ⟨_, rfl, ?_⟩; have n0_ := Aside0.mk (lb_ BK326 hb); have n1_ := Aside0.mk (lb_ BK327 hb); have n2_ := Aside0.mk (below_step (bb2_ HB GE326 GE327) hb); clear BK326; clear BK327; clear HB; have BK326 := n0_; have BK327 := n1_; have HB := n2_; clear n0_ n1_ n2_; (try clear hb); (try clear hb2); (try clear hk); (try clear hi)))
   go_ret
   exact ⟨by first | rfl | (simp [errW_none, errW_some] <;> rfl) | (simp [*, errW_none, errW_some] <;> rfl), bb2_ HB GE326 GE327⟩

end Go.Proofs.Ytadddkdfbmbagaa.PA
