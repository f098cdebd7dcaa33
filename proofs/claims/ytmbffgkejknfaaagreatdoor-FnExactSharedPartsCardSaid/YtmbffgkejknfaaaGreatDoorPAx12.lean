-- Written by a program of this session (wip/tools/myprint.py). Not trusted: Lean checks it.
import Derived.Test.YtmbffgkejknfaaaGreatDoorSq4
import Derived.Test.YtmbffgkejknfaaaGreatDoorPAx0
import Derived.Test.YtmbffgkejknfaaaGreatDoorPAx11
namespace Go.Proofs.YtmbffgkejknfaaaGreatDoor.PA
open Go.RowKit Go.Proofs.YtmbffgkejknfaaaGreatDoorW.PrintWords Go.Proofs.YtmbffgkejknfaaaGreatDoorW.PrintLast Go.Proofs.YtmbffgkejknfaaaGreatDoorW.PrintMore
attribute [local go_sem] max2_int min2_int max_two min_two max_three min_three max_four min_four   -- for this text's walks alone
set_option linter.unusedVariables false
set_option linter.unusedSimpArgs false

/-! ### impl_IsShape: function 85 -/
def impl_IsShape.f (a0_0 a0_1 : Int) (a0_2 a0_3 a0_4 : Int) (a0_5 : Bool) : Option (Bool) := (some (([a0_0] : List Int) : List Int)).bind fun y241 => ((impl_Shape_bends.f a0_0 a0_1 a0_2 a0_3 a0_4 a0_5).bind fun t244 => (if y241.length + t244.length < 17592186044416 then ((impl_allWithin.f (y241 ++ t244) 0 2).bind fun t250 => (if t250 = true then (if a0_5 = true then ((impl_Shape_maySpread.f a0_0 a0_1 a0_2 a0_3 a0_4 a0_5).bind fun t251 => (some t251)) else (some true)) else (some false))) else (none)))
def impl_IsShape.T1 : Bool × List (List Nat × List Nat) := (true, [([], []), ([0], [0]), ([1], [1]), ([], []), ([3], [3]), ([2, 4, 4], [2, 4]), ([5, 5], [5]), ([6], [6])])
def impl_IsShape.B1 : List Nat := [0, 1, 3, 0, 8, 31, 63, 127]
theorem impl_IsShape.tab1 : rtab .any (opsOf Tryz.f85 1) = impl_IsShape.T1 := by kernel_rfl
theorem impl_IsShape.bits1 : waitsOk impl_IsShape.T1.2 impl_IsShape.B1 = true := by kernel_rfl
set_option maxHeartbeats 8000000 in
set_option maxRecDepth 100000 in
theorem impl_IsShape.calls (a0_0 a0_1 : Int) (a0_2 a0_3 a0_4 : Int) (a0_5 r : Bool) (w : World) (h : impl_IsShape.f a0_0 a0_1 a0_2 a0_3 a0_4 a0_5 = some r) :
  Calls Tryz.prog 85 #[.agg #[.int .i64 a0_0, .int .i64 a0_1, .int .i64 a0_2, .int .i64 a0_3, .int .i64 a0_4, .bool a0_5]] w fun e w' => e = .returned (.bool r) ∧ Below w.heap.size w w' := by
 have hu37 := Tryz.underlying37
 have HB := am_ (Below.refl w.heap.size w)
 have H : ((some (([a0_0] : List Int) : List Int)).bind fun y241 => ((impl_Shape_bends.f a0_0 a0_1 a0_2 a0_3 a0_4 a0_5).bind fun t244 => (if y241.length + t244.length < 17592186044416 then ((impl_allWithin.f (y241 ++ t244) 0 2).bind fun t250 => (if t250 = true then (if a0_5 = true then ((impl_Shape_maySpread.f a0_0 a0_1 a0_2 a0_3 a0_4 a0_5).bind fun t251 => (some t251)) else (some true)) else (some false))) else (none)))) = some r := h
 clear h
 obtain ⟨y241, hy241⟩ : ∃ y_ : List Int, y_ = (([a0_0] : List Int)) := ⟨_, rfl⟩
 replace H : ((impl_Shape_bends.f a0_0 a0_1 a0_2 a0_3 a0_4 a0_5).bind fun t244 => (if y241.length + t244.length < 17592186044416 then ((impl_allWithin.f (y241 ++ t244) 0 2).bind fun t250 => (if t250 = true then (if a0_5 = true then ((impl_Shape_maySpread.f a0_0 a0_1 a0_2 a0_3 a0_4 a0_5).bind fun t251 => (some t251)) else (some true)) else (some false))) else (none))) = some r := by first | (rw [hy241]; with_reducible exact H) | (have H2_ := (Option.bind_some _ _).symm.trans H; rw [hy241]; with_reducible exact H2_) | (have H2_ := (Option.bind_some _ _).symm.trans H; with_reducible exact H2_) | with_reducible exact H | (rw [hy241]; exact H) | exact H
 have Ny241 := Aside0.mk hy241
 clear hy241
 replace H := Option.bind_eq_some_iff.mp H
 obtain ⟨t244, A20, H⟩ := H
 try dsimp only at H
 have A2 := Aside0.mk A20
 clear A20
 by_cases c3 : y241.length + t244.length < 17592186044416
 ·rw [if_pos c3] at H
  have LMc3 := Aside0.mk c3
  clear c3
  obtain ⟨y247, hy247⟩ : ∃ y_ : List Int, y_ = (y241 ++ t244) := ⟨_, rfl⟩
  replace H : ((impl_allWithin.f y247 0 2).bind fun t250 => (if t250 = true then (if a0_5 = true then ((impl_Shape_maySpread.f a0_0 a0_1 a0_2 a0_3 a0_4 a0_5).bind fun t251 => (some t251)) else (some true)) else (some false))) = some r := by first | (rw [hy247]; with_reducible exact H) | (have H2_ := (Option.bind_some _ _).symm.trans H; rw [hy247]; with_reducible exact H2_) | (have H2_ := (Option.bind_some _ _).symm.trans H; with_reducible exact H2_) | with_reducible exact H | (rw [hy247]; exact H) | exact H
  have Ny247 := Aside0.mk hy247
  clear hy247
  replace H := Option.bind_eq_some_iff.mp H
  obtain ⟨t250, A40, H⟩ := H
  try dsimp only at H
  have A4 := Aside0.mk A40
  clear A40
  by_cases c5 : t250 = true
  ·subst c5
   have H1 : (if a0_5 = true then ((impl_Shape_maySpread.f a0_0 a0_1 a0_2 a0_3 a0_4 a0_5).bind fun t251 => (some t251)) else (some true)) = some r := by rw [if_pos rfl] at H; exact H
   clear H
   have H := H1
   clear H1
   by_cases c6 : a0_5 = true
   ·subst c6
    have H1 : ((impl_Shape_maySpread.f a0_0 a0_1 a0_2 a0_3 a0_4 true).bind fun t251 => (some t251)) = some r := by rw [if_pos rfl] at H; exact H
    clear H
    have H := H1
    clear H1
    replace H := Option.bind_eq_some_iff.mp H
    obtain ⟨t251, A70, H⟩ := H
    try dsimp only at H
    have A7 := Aside0.mk A70
    clear A70
    obtain rfl := Option.some.inj H
    go_enter Tryz.func85, Tryz.ntmps85
    try go_wp2_with (first | ((with_reducible refine gate_dst (N := 1) rfl ?_); refine bx_ (cs := #[.int .i64 a0_0, .int .i64 a0_1, .int .i64 a0_2, .int .i64 a0_3, .int .i64 a0_4, .bool true]) (t := 37) ?_; intro gb240 hg w8 hbox hb; have BK240 := am_ (hbox); have GW240 := gz_ hg HB; have GE240 := gz_ hg HB; replace HB := am_ (bt_ HB hb); clear hb hbox hg))
    replace BK240 := am_ (blk_drew BK240.out)
    replace HB := am_ (below_drew1 HB.out)
    refine start_ (n := 8) (S := fun w' => w'.cell? ⟨gb240, 0, none⟩ = some (.int .i64 a0_0) ∧ w'.cell? ⟨gb240, 1, none⟩ = some (.int .i64 a0_1) ∧ w'.cell? ⟨gb240, 2, none⟩ = some (.int .i64 a0_2) ∧ w'.cell? ⟨gb240, 3, none⟩ = some (.int .i64 a0_3) ∧ w'.cell? ⟨gb240, 4, none⟩ = some (.int .i64 a0_4) ∧ w'.cell? ⟨gb240, 5, none⟩ = some (.bool true)) (ds := []) #[false, false, false, false, false, false, false, false] (by kernel_rfl) rfl rfl (by repeat' (first | apply And.intro | exact (blk_cell BK240.out _).trans rfl)) (fun hHeld => ?_); refine with_tabW impl_IsShape.tab1 impl_IsShape.bits1 (fun HT_ HW_ => ?_)
    generalize w8.drew = w9 at BK240 HB hHeld ⊢
    refine pu2_ (i := 0) (N := some 3) #[true, false, false, false, false, false, false, false] rfl rfl ?_
    refine tk2_ (i := 1) (N := some 4) #[true, true, false, false, false, false, false, false] rfl rfl hHeld ?_
    refine tk2_ (i := 3) (N := some 6) #[true, true, false, true, false, false, false, false] rfl rfl hHeld ?_
    refine join_ (σ := Value × Value) 3 #[true, true, true, true, true, false, false, false] (fun s_ => [(5, s_.1), (7, s_.2)]) (fun s_ w' => (w'.cell? ⟨gb240, 0, none⟩ = some (.int .i64 a0_0) ∧ w'.cell? ⟨gb240, 1, none⟩ = some (.int .i64 a0_1) ∧ w'.cell? ⟨gb240, 2, none⟩ = some (.int .i64 a0_2) ∧ w'.cell? ⟨gb240, 3, none⟩ = some (.int .i64 a0_3) ∧ w'.cell? ⟨gb240, 4, none⟩ = some (.int .i64 a0_4) ∧ w'.cell? ⟨gb240, 5, none⟩ = some (.bool true)) ∧ (Kd.R (Kd.int .i64) 3 w' w.heap.size (fun k_ => some k_ ≠ (s_.2 : Value).ownBlock) s_.1 y241) ∧ (Kd.R (Kd.int .i64) 3 w' w.heap.size (fun k_ => some k_ ≠ (s_.1 : Value).ownBlock) s_.2 t244) ∧ (w'.heap[gb240]? = some (.cells #[.int .i64 a0_0, .int .i64 a0_1, .int .i64 a0_2, .int .i64 a0_3, .int .i64 a0_4, .bool true] 37 (0, 0))) ∧ (Below w.heap.size w w')) ?_ ?_
    rotate_left
    ·intro hCont
     refine two_ (i := 2) (j := 4) (Ni := some 5) (Nj := some 7) #[true, true, true, true, false, false, false, false] #[true, true, false, true, true, false, false, false] rfl rfl rfl rfl (two_of HT_.out (by kernel_rfl)) (by decide) (by decide) (fun K hK => ?_) (fun K hK => ?_)
     ·skip
      refine Kd.R_lit_step (Kd.int .i64) _ 3 ?hg (N := 5) ?hd (xs := ([a0_0] : List Int)) (inner := [.int .i64 a0_0]) (ok := fun _ => True) (okp := fun _ => True) ?hr ?hp (fun _ hk => hk) trivial (Below.refl _ _) (Nat.le_refl _) (by simp) ?_; (case hd => rfl); (case hg => rfl); (case hr => first | (go_simp; done) | (go_simp; rfl)); (case hp => exact (Reps.one (show Kd.M (Kd.int .i64) _ _ _ a0_0 [.int .i64 a0_0] from rfl) (Reps.none _ _)))
      intro v242 w10 ho11 hb hg_ hnew_
      clear hg_ hnew_
      (first | rw [← Ny241.out] at ho11 | (simp only [Int.reduceToNat] at ho11; rw [← Ny241.out] at ho11))
      have HO243 := am_ (Kd.R_lower ho11 (below_size (bb1_ HB GE240)))
      replace BK240 := am_ (lb_ BK240 hb)
      replace HB := am_ (below_step (bb1_ HB GE240) hb)
      clear hb ho11
      refine hK.out _ _ (by repeat' (first | apply And.intro | exact (blk_cell BK240.out _).trans rfl)) (fun hHeld => ?_)
      clear hK K
      refine nm2_ ?_
      refine one_ (i := 4) (N := some 7) #[true, true, true, true, true, false, false, false] rfl rfl (one_of HT_.out (by kernel_rfl)) (by decide) (fun K hK => ?_)
      refine goes_ Tryz.func100 (by kernel_rfl) rfl #[.agg #[.int .i64 a0_0, .int .i64 a0_1, .int .i64 a0_2, .int .i64 a0_3, .int .i64 a0_4, .bool true]] (by rfl) rfl rfl args_ ?_
      with_reducible refine (impl_Shape_bends.calls (w := _) (h := A2.out)).mono ?_
      rintro e w12 ⟨v245, rfl, ho0, hb⟩
      refine ⟨_, rfl, ?_⟩
      have HO246 := am_ (Kd.R_lower (Kd.R_new' ho0 (Kd.R_lt (ra_ HO243))) (below_size (bb1_ HB GE240)))
      replace HO243 := am_ (Kd.R_elder' (ra_ HO243) (Kd.R_base ho0) hb)
      replace BK240 := am_ (lb_ BK240 hb)
      replace HB := am_ (below_step (bb1_ HB GE240) hb)
      (try clear hb)
      (try clear hb2)
      (try clear hk)
      (try clear hi)
      (try clear ho0)
      refine hK.out _ _ (by repeat' (first | apply And.intro | exact (blk_cell BK240.out _).trans rfl)) (fun hHeld => ?_)
      clear hK K
      refine nm2_ ?_
      exact norm_ (by simp only [putAll, Act.put, List.setIfInBounds_toArray, List.set_cons_zero, List.set_cons_succ]) (hCont (v242, v245) _ ⟨hHeld, (by (with_reducible repeat (first | apply rA_ | apply rN_ | apply rD_)); exact Kd.R_mono HO243.out (fun _ hk => hk.2)), (by (with_reducible repeat (first | apply rA_ | apply rN_ | apply rD_)); exact Kd.R_mono HO246.out (fun _ hk => hk.2)), (la_ BK240), (bb1_ HB GE240)⟩)
     ·skip
      refine goes_ Tryz.func100 (by kernel_rfl) rfl #[.agg #[.int .i64 a0_0, .int .i64 a0_1, .int .i64 a0_2, .int .i64 a0_3, .int .i64 a0_4, .bool true]] (by rfl) rfl rfl args_ ?_
      with_reducible refine (impl_Shape_bends.calls (w := _) (h := A2.out)).mono ?_
      rintro e w10 ⟨v245, rfl, ho0, hb⟩
      refine ⟨_, rfl, ?_⟩
      have HO246 := am_ (Kd.R_lower ho0 (below_size (bb1_ HB GE240)))
      replace BK240 := am_ (lb_ BK240 hb)
      replace HB := am_ (below_step (bb1_ HB GE240) hb)
      (try clear hb)
      (try clear hb2)
      (try clear hk)
      (try clear hi)
      (try clear ho0)
      refine hK.out _ _ (by repeat' (first | apply And.intro | exact (blk_cell BK240.out _).trans rfl)) (fun hHeld => ?_)
      clear hK K
      refine nm2_ ?_
      refine one_ (i := 2) (N := some 5) #[true, true, true, true, true, false, false, false] rfl rfl (one_of HT_.out (by kernel_rfl)) (by decide) (fun K hK => ?_)
      refine Kd.R_lit_step (Kd.int .i64) _ 3 ?hg (N := 5) ?hd (xs := ([a0_0] : List Int)) (inner := [.int .i64 a0_0]) (ok := fun _ => True) (okp := fun _ => True) ?hr ?hp (fun _ hk => hk) trivial (Below.refl _ _) (Nat.le_refl _) (by simp) ?_; (case hd => rfl); (case hg => rfl); (case hr => first | (go_simp; done) | (go_simp; rfl)); (case hp => exact (Reps.one (show Kd.M (Kd.int .i64) _ _ _ a0_0 [.int .i64 a0_0] from rfl) (Reps.none _ _)))
      intro v242 w11 ho12 hb hg_ hnew_
      clear hg_ hnew_
      (first | rw [← Ny241.out] at ho12 | (simp only [Int.reduceToNat] at ho12; rw [← Ny241.out] at ho12))
      have HO243 := am_ (Kd.R_lower (Kd.R_new' ho12 (Kd.R_lt (ra_ HO246))) (below_size (bb1_ HB GE240)))
      replace HO246 := am_ (Kd.R_elder' (ra_ HO246) (Kd.R_base ho12) hb)
      replace BK240 := am_ (lb_ BK240 hb)
      replace HB := am_ (below_step (bb1_ HB GE240) hb)
      clear hb ho12
      refine hK.out _ _ (by repeat' (first | apply And.intro | exact (blk_cell BK240.out _).trans rfl)) (fun hHeld => ?_)
      clear hK K
      refine nm2_ ?_
      exact norm_ (by simp only [putAll, Act.put, List.setIfInBounds_toArray, List.set_cons_zero, List.set_cons_succ]) (hCont (v242, v245) _ ⟨hHeld, (by (with_reducible repeat (first | apply rA_ | apply rN_ | apply rD_)); exact Kd.R_mono HO243.out (fun _ hk => hk.2)), (by (with_reducible repeat (first | apply rA_ | apply rN_ | apply rD_)); exact Kd.R_mono HO246.out (fun _ hk => hk.2)), (la_ BK240), (bb1_ HB GE240)⟩)
    rintro ⟨v242, v245⟩ w13 ⟨hS_, h0_, h1_, h2_, h3_⟩
    have n0_ : Aside0 (Kd.R (Kd.int .i64) 3 w13 w.heap.size (fun k_ => some k_ ≠ (v245 : Value).ownBlock) v242 y241) := ⟨h0_⟩
    have n1_ : Aside0 (Kd.R (Kd.int .i64) 3 w13 w.heap.size (fun k_ => some k_ ≠ (v242 : Value).ownBlock) v245 t244) := ⟨h1_⟩
    have n2_ : Aside0 (w13.heap[gb240]? = some (.cells #[.int .i64 a0_0, .int .i64 a0_1, .int .i64 a0_2, .int .i64 a0_3, .int .i64 a0_4, .bool true] 37 (0, 0))) := ⟨h2_⟩
    have n3_ : Aside0 (Below w.heap.size w w13) := ⟨h3_⟩
    clear BK240
    clear HB
    clear h0_ h1_ h2_ h3_
    have HO243 := n0_
    have HO246 := n1_
    have BK240 := n2_
    have HB := n3_
    clear n0_ n1_ n2_ n3_
    have hHeld : w13.cell? ⟨gb240, 0, none⟩ = some (.int .i64 a0_0) ∧ w13.cell? ⟨gb240, 1, none⟩ = some (.int .i64 a0_1) ∧ w13.cell? ⟨gb240, 2, none⟩ = some (.int .i64 a0_2) ∧ w13.cell? ⟨gb240, 3, none⟩ = some (.int .i64 a0_3) ∧ w13.cell? ⟨gb240, 4, none⟩ = some (.int .i64 a0_4) ∧ w13.cell? ⟨gb240, 5, none⟩ = some (.bool true) := hS_
    obtain ⟨Ao15, co15, eo15⟩ := Kd.R_slice HO246.out
    (first | subst eo15 | (injection eo15 with f1_ f2_ f3_; have f4_ := f1_.symm; have f5_ := f3_.symm; clear f1_ f2_ f3_; subst f4_; subst f5_))
    refine norm_ (a' := ?_) ?_ ?_
    rotate_left
    ·simp only [putAll, Act.put, List.setIfInBounds_toArray, List.set_cons_zero, List.set_cons_succ]
     rfl
    refine one_ (i := 5) (N := some 8) #[true, true, true, true, true, true, false, false] rfl rfl (one_of HT_.out (by kernel_rfl)) (by decide) (fun K hK => ?_)
    refine Kd.R_append_rows_step (Kd.int .i64) (w0 := w) w.heap.size (by rfl) (.tmp 5) (.tmp 7) 81 3 (.int .i64 0) 8 rfl Tryz.underlying81 info3 rfl (by decide) (by omega) v242 y241 t244 _ _ _ (fun k_ => some k_ ≠ (.slice Ao15 t244.length co15 : Value).ownBlock) (fun _ => False) rfl rfl ?aO ?aR (fun _ _ h => h) (fun _ h => h.elim) ?aF ?aB ?aS ?aL ?_
    (case aR => exact cr_ HO246)
    (case aB => exact (bb1_ HB GE240))
    (case aF => exact (fun k_ hk => Kd.fresh' (Kd.R_lt (ra_ HO246)) k_ hk))
    (case aO => exact (ra_ HO243))
    (case aS => exact (below_size (bb1_ HB GE240)))
    (case aL => have := LMc3.out; omega)
    intro v248 w14 ho hb hg hat
    rw [← Ny247.out] at ho
    have n0_ := am_ (blk_grown (g := gb240) (o := .cells #[.int .i64 a0_0, .int .i64 a0_1, .int .i64 a0_2, .int .i64 a0_3, .int .i64 a0_4, .bool true] 37 (0, 0)) (la_ BK240) hg (Kd.R_ne HO243.out BK240.out (by decide)))
    have n1_ := am_ (Kd.R_after (ok := (fun _ => True)) (by (with_reducible repeat (first | apply rA_ | apply rN_ | apply rD_)); exact Kd.R_mono HO246.out (fun _ hk => ⟨trivial, hk⟩)) hg hat)
    have n2_ := am_ (hb)
    have n3_ := am_ (ho)
    clear BK240
    clear HO246
    clear HB
    clear HO243
    have BK240 := n0_
    have HO246 := n1_
    have HB := n2_
    have HO249 := n3_
    clear n0_ n1_ n2_ n3_
    clear ho hb hg hat
    obtain ⟨Ao16, co16, eo16⟩ := Kd.R_slice HO249.out
    (first | subst eo16 | (injection eo16 with f1_ f2_ f3_; have f4_ := f1_.symm; have f5_ := f3_.symm; clear f1_ f2_ f3_; subst f4_; subst f5_))
    refine hK.out _ _ (by repeat' (first | apply And.intro | exact (blk_cell BK240.out _).trans rfl)) (fun hHeld => ?_)
    clear hK K
    refine nm2_ ?_
    refine one_ (i := 6) (N := some 9) #[true, true, true, true, true, true, true, false] rfl rfl (one_of HT_.out (by kernel_rfl)) (by decide) (fun K hK => ?_)
    refine goes_ Tryz.func121 (by kernel_rfl) rfl #[.slice Ao16 y247.length co16, .int .i64 0, .int .i64 2] (by rfl) rfl rfl args_ ?_
    with_reducible refine (impl_allWithin.calls _ _ y247 0 2 true _ ?side1 ?side2 A4.out).mono ?_
    (case side1 => exact cr_ HO249)
    (case side2 => exact (Kd.R_reads' HO249.out).2.1)
    rintro e w17 ⟨rfl, hb⟩
    refine ⟨_, rfl, ?_⟩
    replace HO246 := am_ (Kd.R_below (ra_ HO246) hb)
    replace HO249 := am_ (Kd.R_below (ra_ HO249) hb)
    replace BK240 := am_ (lb_ BK240 hb)
    replace HB := am_ (below_step (bb1_ HB GE240) hb)
    (try clear hb)
    (try clear hb2)
    (try clear hk)
    (try clear hi)
    refine hK.out _ _ (by repeat' (first | apply And.intro | exact (blk_cell BK240.out _).trans rfl)) (fun hHeld => ?_)
    clear hK K
    refine nm2_ ?_
    refine pu2_ (i := 7) (N := some 10) #[true, true, true, true, true, true, true, true] rfl rfl ?_
    refine done_ (done_of HT_.out (by kernel_rfl)) ?_
    have hcz18_0 := cz0_ BK240
    have hcz18_1 := cz1_ BK240
    have hcz18_2 := cz2_ BK240
    have hcz18_3 := cz3_ BK240
    have hcz18_4 := cz4_ BK240
    have hcz18_5 := cz5_ BK240
    try go_wp2_with (first | (go_at_call 122; (with_reducible refine (impl_Shape_maySpread.calls (w := _) (h := A7.out)).mono ?_); rintro e w19 ⟨rfl, hb⟩; replace HO246 := am_ (Kd.R_below (ra_ HO246) hb); replace HO249 := am_ (Kd.R_below (ra_ HO249) hb); replace BK240 := am_ (lb_ BK240 hb); replace HB := am_ (below_step (bb1_ HB GE240) hb); (try clear hb); (try clear hb2); (try clear hk); (try clear hi)))
    go_ret
    exact ⟨ew_, bb1_ HB GE240⟩
   ·replace c6 := Bool.eq_false_iff.mpr c6
    subst c6
    have H1 : (some true) = some r := by rw [if_neg (show ¬ (false = true) by decide)] at H; exact H
    clear H
    have H := H1
    clear H1
    obtain rfl := Option.some.inj H
    go_enter Tryz.func85, Tryz.ntmps85
    try go_wp2_with (first | ((with_reducible refine gate_dst (N := 1) rfl ?_); refine bx_ (cs := #[.int .i64 a0_0, .int .i64 a0_1, .int .i64 a0_2, .int .i64 a0_3, .int .i64 a0_4, .bool false]) (t := 37) ?_; intro gb240 hg w20 hbox hb; have BK240 := am_ (hbox); have GW240 := gz_ hg HB; have GE240 := gz_ hg HB; replace HB := am_ (bt_ HB hb); clear hb hbox hg))
    replace BK240 := am_ (blk_drew BK240.out)
    replace HB := am_ (below_drew1 HB.out)
    refine start_ (n := 8) (S := fun w' => w'.cell? ⟨gb240, 0, none⟩ = some (.int .i64 a0_0) ∧ w'.cell? ⟨gb240, 1, none⟩ = some (.int .i64 a0_1) ∧ w'.cell? ⟨gb240, 2, none⟩ = some (.int .i64 a0_2) ∧ w'.cell? ⟨gb240, 3, none⟩ = some (.int .i64 a0_3) ∧ w'.cell? ⟨gb240, 4, none⟩ = some (.int .i64 a0_4) ∧ w'.cell? ⟨gb240, 5, none⟩ = some (.bool false)) (ds := []) #[false, false, false, false, false, false, false, false] (by kernel_rfl) rfl rfl (by repeat' (first | apply And.intro | exact (blk_cell BK240.out _).trans rfl)) (fun hHeld => ?_); refine with_tabW impl_IsShape.tab1 impl_IsShape.bits1 (fun HT_ HW_ => ?_)
    generalize w20.drew = w21 at BK240 HB hHeld ⊢
    refine pu2_ (i := 0) (N := some 3) #[true, false, false, false, false, false, false, false] rfl rfl ?_
    refine tk2_ (i := 1) (N := some 4) #[true, true, false, false, false, false, false, false] rfl rfl hHeld ?_
    refine tk2_ (i := 3) (N := some 6) #[true, true, false, true, false, false, false, false] rfl rfl hHeld ?_
    refine join_ (σ := Value × Value) 3 #[true, true, true, true, true, false, false, false] (fun s_ => [(5, s_.1), (7, s_.2)]) (fun s_ w' => (w'.cell? ⟨gb240, 0, none⟩ = some (.int .i64 a0_0) ∧ w'.cell? ⟨gb240, 1, none⟩ = some (.int .i64 a0_1) ∧ w'.cell? ⟨gb240, 2, none⟩ = some (.int .i64 a0_2) ∧ w'.cell? ⟨gb240, 3, none⟩ = some (.int .i64 a0_3) ∧ w'.cell? ⟨gb240, 4, none⟩ = some (.int .i64 a0_4) ∧ w'.cell? ⟨gb240, 5, none⟩ = some (.bool false)) ∧ (Kd.R (Kd.int .i64) 3 w' w.heap.size (fun k_ => some k_ ≠ (s_.2 : Value).ownBlock) s_.1 y241) ∧ (Kd.R (Kd.int .i64) 3 w' w.heap.size (fun k_ => some k_ ≠ (s_.1 : Value).ownBlock) s_.2 t244) ∧ (w'.heap[gb240]? = some (.cells #[.int .i64 a0_0, .int .i64 a0_1, .int .i64 a0_2, .int .i64 a0_3, .int .i64 a0_4, .bool false] 37 (0, 0))) ∧ (Below w.heap.size w w')) ?_ ?_
    rotate_left
    ·intro hCont
     refine two_ (i := 2) (j := 4) (Ni := some 5) (Nj := some 7) #[true, true, true, true, false, false, false, false] #[true, true, false, true, true, false, false, false] rfl rfl rfl rfl (two_of HT_.out (by kernel_rfl)) (by decide) (by decide) (fun K hK => ?_) (fun K hK => ?_)
     ·skip
      refine Kd.R_lit_step (Kd.int .i64) _ 3 ?hg (N := 5) ?hd (xs := ([a0_0] : List Int)) (inner := [.int .i64 a0_0]) (ok := fun _ => True) (okp := fun _ => True) ?hr ?hp (fun _ hk => hk) trivial (Below.refl _ _) (Nat.le_refl _) (by simp) ?_; (case hd => rfl); (case hg => rfl); (case hr => first | (go_simp; done) | (go_simp; rfl)); (case hp => exact (Reps.one (show Kd.M (Kd.int .i64) _ _ _ a0_0 [.int .i64 a0_0] from rfl) (Reps.none _ _)))
      intro v242 w22 ho23 hb hg_ hnew_
      clear hg_ hnew_
      (first | rw [← Ny241.out] at ho23 | (simp only [Int.reduceToNat] at ho23; rw [← Ny241.out] at ho23))
      have HO243 := am_ (Kd.R_lower ho23 (below_size (bb1_ HB GE240)))
      replace BK240 := am_ (lb_ BK240 hb)
      replace HB := am_ (below_step (bb1_ HB GE240) hb)
      clear hb ho23
      refine hK.out _ _ (by repeat' (first | apply And.intro | exact (blk_cell BK240.out _).trans rfl)) (fun hHeld => ?_)
      clear hK K
      refine nm2_ ?_
      refine one_ (i := 4) (N := some 7) #[true, true, true, true, true, false, false, false] rfl rfl (one_of HT_.out (by kernel_rfl)) (by decide) (fun K hK => ?_)
      refine goes_ Tryz.func100 (by kernel_rfl) rfl #[.agg #[.int .i64 a0_0, .int .i64 a0_1, .int .i64 a0_2, .int .i64 a0_3, .int .i64 a0_4, .bool false]] (by rfl) rfl rfl args_ ?_
      with_reducible refine (impl_Shape_bends.calls (w := _) (h := A2.out)).mono ?_
      rintro e w24 ⟨v245, rfl, ho0, hb⟩
      refine ⟨_, rfl, ?_⟩
      have HO246 := am_ (Kd.R_lower (Kd.R_new' ho0 (Kd.R_lt (ra_ HO243))) (below_size (bb1_ HB GE240)))
      replace HO243 := am_ (Kd.R_elder' (ra_ HO243) (Kd.R_base ho0) hb)
      replace BK240 := am_ (lb_ BK240 hb)
      replace HB := am_ (below_step (bb1_ HB GE240) hb)
      (try clear hb)
      (try clear hb2)
      (try clear hk)
      (try clear hi)
      (try clear ho0)
      refine hK.out _ _ (by repeat' (first | apply And.intro | exact (blk_cell BK240.out _).trans rfl)) (fun hHeld => ?_)
      clear hK K
      refine nm2_ ?_
      exact norm_ (by simp only [putAll, Act.put, List.setIfInBounds_toArray, List.set_cons_zero, List.set_cons_succ]) (hCont (v242, v245) _ ⟨hHeld, (by (with_reducible repeat (first | apply rA_ | apply rN_ | apply rD_)); exact Kd.R_mono HO243.out (fun _ hk => hk.2)), (by (with_reducible repeat (first | apply rA_ | apply rN_ | apply rD_)); exact Kd.R_mono HO246.out (fun _ hk => hk.2)), (la_ BK240), (bb1_ HB GE240)⟩)
     ·skip
      refine goes_ Tryz.func100 (by kernel_rfl) rfl #[.agg #[.int .i64 a0_0, .int .i64 a0_1, .int .i64 a0_2, .int .i64 a0_3, .int .i64 a0_4, .bool false]] (by rfl) rfl rfl args_ ?_
      with_reducible refine (impl_Shape_bends.calls (w := _) (h := A2.out)).mono ?_
      rintro e w22 ⟨v245, rfl, ho0, hb⟩
      refine ⟨_, rfl, ?_⟩
      have HO246 := am_ (Kd.R_lower ho0 (below_size (bb1_ HB GE240)))
      replace BK240 := am_ (lb_ BK240 hb)
      replace HB := am_ (below_step (bb1_ HB GE240) hb)
      (try clear hb)
      (try clear hb2)
      (try clear hk)
      (try clear hi)
      (try clear ho0)
      refine hK.out _ _ (by repeat' (first | apply And.intro | exact (blk_cell BK240.out _).trans rfl)) (fun hHeld => ?_)
      clear hK K
      refine nm2_ ?_
      refine one_ (i := 2) (N := some 5) #[true, true, true, true, true, false, false, false] rfl rfl (one_of HT_.out (by kernel_rfl)) (by decide) (fun K hK => ?_)
      refine Kd.R_lit_step (Kd.int .i64) _ 3 ?hg (N := 5) ?hd (xs := ([a0_0] : List Int)) (inner := [.int .i64 a0_0]) (ok := fun _ => True) (okp := fun _ => True) ?hr ?hp (fun _ hk => hk) trivial (Below.refl _ _) (Nat.le_refl _) (by simp) ?_; (case hd => rfl); (case hg => rfl); (case hr => first | (go_simp; done) | (go_simp; rfl)); (case hp => exact (Reps.one (show Kd.M (Kd.int .i64) _ _ _ a0_0 [.int .i64 a0_0] from rfl) (Reps.none _ _)))
      intro v242 w23 ho24 hb hg_ hnew_
      clear hg_ hnew_
      (first | rw [← Ny241.out] at ho24 | (simp only [Int.reduceToNat] at ho24; rw [← Ny241.out] at ho24))
      have HO243 := am_ (Kd.R_lower (Kd.R_new' ho24 (Kd.R_lt (ra_ HO246))) (below_size (bb1_ HB GE240)))
      replace HO246 := am_ (Kd.R_elder' (ra_ HO246) (Kd.R_base ho24) hb)
      replace BK240 := am_ (lb_ BK240 hb)
      replace HB := am_ (below_step (bb1_ HB GE240) hb)
      clear hb ho24
      refine hK.out _ _ (by repeat' (first | apply And.intro | exact (blk_cell BK240.out _).trans rfl)) (fun hHeld => ?_)
      clear hK K
      refine nm2_ ?_
      exact norm_ (by simp only [putAll, Act.put, List.setIfInBounds_toArray, List.set_cons_zero, List.set_cons_succ]) (hCont (v242, v245) _ ⟨hHeld, (by (with_reducible repeat (first | apply rA_ | apply rN_ | apply rD_)); exact Kd.R_mono HO243.out (fun _ hk => hk.2)), (by (with_reducible repeat (first | apply rA_ | apply rN_ | apply rD_)); exact Kd.R_mono HO246.out (fun _ hk => hk.2)), (la_ BK240), (bb1_ HB GE240)⟩)
    rintro ⟨v242, v245⟩ w25 ⟨hS_, h0_, h1_, h2_, h3_⟩
    have n0_ : Aside0 (Kd.R (Kd.int .i64) 3 w25 w.heap.size (fun k_ => some k_ ≠ (v245 : Value).ownBlock) v242 y241) := ⟨h0_⟩
    have n1_ : Aside0 (Kd.R (Kd.int .i64) 3 w25 w.heap.size (fun k_ => some k_ ≠ (v242 : Value).ownBlock) v245 t244) := ⟨h1_⟩
    have n2_ : Aside0 (w25.heap[gb240]? = some (.cells #[.int .i64 a0_0, .int .i64 a0_1, .int .i64 a0_2, .int .i64 a0_3, .int .i64 a0_4, .bool false] 37 (0, 0))) := ⟨h2_⟩
    have n3_ : Aside0 (Below w.heap.size w w25) := ⟨h3_⟩
    clear BK240
    clear HB
    clear h0_ h1_ h2_ h3_
    have HO243 := n0_
    have HO246 := n1_
    have BK240 := n2_
    have HB := n3_
    clear n0_ n1_ n2_ n3_
    have hHeld : w25.cell? ⟨gb240, 0, none⟩ = some (.int .i64 a0_0) ∧ w25.cell? ⟨gb240, 1, none⟩ = some (.int .i64 a0_1) ∧ w25.cell? ⟨gb240, 2, none⟩ = some (.int .i64 a0_2) ∧ w25.cell? ⟨gb240, 3, none⟩ = some (.int .i64 a0_3) ∧ w25.cell? ⟨gb240, 4, none⟩ = some (.int .i64 a0_4) ∧ w25.cell? ⟨gb240, 5, none⟩ = some (.bool false) := hS_
    obtain ⟨Ao27, co27, eo27⟩ := Kd.R_slice HO246.out
    (first | subst eo27 | (injection eo27 with f1_ f2_ f3_; have f4_ := f1_.symm; have f5_ := f3_.symm; clear f1_ f2_ f3_; subst f4_; subst f5_))
    refine norm_ (a' := ?_) ?_ ?_
    rotate_left
    ·simp only [putAll, Act.put, List.setIfInBounds_toArray, List.set_cons_zero, List.set_cons_succ]
     rfl
    refine one_ (i := 5) (N := some 8) #[true, true, true, true, true, true, false, false] rfl rfl (one_of HT_.out (by kernel_rfl)) (by decide) (fun K hK => ?_)
    refine Kd.R_append_rows_step (Kd.int .i64) (w0 := w) w.heap.size (by rfl) (.tmp 5) (.tmp 7) 81 3 (.int .i64 0) 8 rfl Tryz.underlying81 info3 rfl (by decide) (by omega) v242 y241 t244 _ _ _ (fun k_ => some k_ ≠ (.slice Ao27 t244.length co27 : Value).ownBlock) (fun _ => False) rfl rfl ?aO ?aR (fun _ _ h => h) (fun _ h => h.elim) ?aF ?aB ?aS ?aL ?_
    (case aR => exact cr_ HO246)
    (case aB => exact (bb1_ HB GE240))
    (case aF => exact (fun k_ hk => Kd.fresh' (Kd.R_lt (ra_ HO246)) k_ hk))
    (case aO => exact (ra_ HO243))
    (case aS => exact (below_size (bb1_ HB GE240)))
    (case aL => have := LMc3.out; omega)
    intro v248 w26 ho hb hg hat
    rw [← Ny247.out] at ho
    have n0_ := am_ (blk_grown (g := gb240) (o := .cells #[.int .i64 a0_0, .int .i64 a0_1, .int .i64 a0_2, .int .i64 a0_3, .int .i64 a0_4, .bool false] 37 (0, 0)) (la_ BK240) hg (Kd.R_ne HO243.out BK240.out (by decide)))
    have n1_ := am_ (Kd.R_after (ok := (fun _ => True)) (by (with_reducible repeat (first | apply rA_ | apply rN_ | apply rD_)); exact Kd.R_mono HO246.out (fun _ hk => ⟨trivial, hk⟩)) hg hat)
    have n2_ := am_ (hb)
    have n3_ := am_ (ho)
    clear BK240
    clear HO246
    clear HB
    clear HO243
    have BK240 := n0_
    have HO246 := n1_
    have HB := n2_
    have HO249 := n3_
    clear n0_ n1_ n2_ n3_
    clear ho hb hg hat
    obtain ⟨Ao28, co28, eo28⟩ := Kd.R_slice HO249.out
    (first | subst eo28 | (injection eo28 with f1_ f2_ f3_; have f4_ := f1_.symm; have f5_ := f3_.symm; clear f1_ f2_ f3_; subst f4_; subst f5_))
    refine hK.out _ _ (by repeat' (first | apply And.intro | exact (blk_cell BK240.out _).trans rfl)) (fun hHeld => ?_)
    clear hK K
    refine nm2_ ?_
    refine one_ (i := 6) (N := some 9) #[true, true, true, true, true, true, true, false] rfl rfl (one_of HT_.out (by kernel_rfl)) (by decide) (fun K hK => ?_)
    refine goes_ Tryz.func121 (by kernel_rfl) rfl #[.slice Ao28 y247.length co28, .int .i64 0, .int .i64 2] (by rfl) rfl rfl args_ ?_
    with_reducible refine (impl_allWithin.calls _ _ y247 0 2 true _ ?side1 ?side2 A4.out).mono ?_
    (case side1 => exact cr_ HO249)
    (case side2 => exact (Kd.R_reads' HO249.out).2.1)
    rintro e w29 ⟨rfl, hb⟩
    refine ⟨_, rfl, ?_⟩
    replace HO246 := am_ (Kd.R_below (ra_ HO246) hb)
    replace HO249 := am_ (Kd.R_below (ra_ HO249) hb)
    replace BK240 := am_ (lb_ BK240 hb)
    replace HB := am_ (below_step (bb1_ HB GE240) hb)
    (try clear hb)
    (try clear hb2)
    (try clear hk)
    (try clear hi)
    refine hK.out _ _ (by repeat' (first | apply And.intro | exact (blk_cell BK240.out _).trans rfl)) (fun hHeld => ?_)
    clear hK K
    refine nm2_ ?_
    refine pu2_ (i := 7) (N := some 10) #[true, true, true, true, true, true, true, true] rfl rfl ?_
    refine done_ (done_of HT_.out (by kernel_rfl)) ?_
    have hcz30_0 := cz0_ BK240
    have hcz30_1 := cz1_ BK240
    have hcz30_2 := cz2_ BK240
    have hcz30_3 := cz3_ BK240
    have hcz30_4 := cz4_ BK240
    have hcz30_5 := cz5_ BK240
    try go_wp2
    go_ret
    exact ⟨ew_, bb1_ HB GE240⟩
  ·replace c5 := Bool.eq_false_iff.mpr c5
   subst c5
   have H1 : (some false) = some r := by rw [if_neg (show ¬ (false = true) by decide)] at H; exact H
   clear H
   have H := H1
   clear H1
   obtain rfl := Option.some.inj H
   go_enter Tryz.func85, Tryz.ntmps85
   try go_wp2_with (first | ((with_reducible refine gate_dst (N := 1) rfl ?_); refine bx_ (cs := #[.int .i64 a0_0, .int .i64 a0_1, .int .i64 a0_2, .int .i64 a0_3, .int .i64 a0_4, .bool a0_5]) (t := 37) ?_; intro gb240 hg w31 hbox hb; have BK240 := am_ (hbox); have GW240 := gz_ hg HB; have GE240 := gz_ hg HB; replace HB := am_ (bt_ HB hb); clear hb hbox hg))
   replace BK240 := am_ (blk_drew BK240.out)
   replace HB := am_ (below_drew1 HB.out)
   refine start_ (n := 8) (S := fun w' => w'.cell? ⟨gb240, 0, none⟩ = some (.int .i64 a0_0) ∧ w'.cell? ⟨gb240, 1, none⟩ = some (.int .i64 a0_1) ∧ w'.cell? ⟨gb240, 2, none⟩ = some (.int .i64 a0_2) ∧ w'.cell? ⟨gb240, 3, none⟩ = some (.int .i64 a0_3) ∧ w'.cell? ⟨gb240, 4, none⟩ = some (.int .i64 a0_4) ∧ w'.cell? ⟨gb240, 5, none⟩ = some (.bool a0_5)) (ds := []) #[false, false, false, false, false, false, false, false] (by kernel_rfl) rfl rfl (by repeat' (first | apply And.intro | exact (blk_cell BK240.out _).trans rfl)) (fun hHeld => ?_); refine with_tabW impl_IsShape.tab1 impl_IsShape.bits1 (fun HT_ HW_ => ?_)
   generalize w31.drew = w32 at BK240 HB hHeld ⊢
   refine pu2_ (i := 0) (N := some 3) #[true, false, false, false, false, false, false, false] rfl rfl ?_
   refine tk2_ (i := 1) (N := some 4) #[true, true, false, false, false, false, false, false] rfl rfl hHeld ?_
   refine tk2_ (i := 3) (N := some 6) #[true, true, false, true, false, false, false, false] rfl rfl hHeld ?_
   refine join_ (σ := Value × Value) 3 #[true, true, true, true, true, false, false, false] (fun s_ => [(5, s_.1), (7, s_.2)]) (fun s_ w' => (w'.cell? ⟨gb240, 0, none⟩ = some (.int .i64 a0_0) ∧ w'.cell? ⟨gb240, 1, none⟩ = some (.int .i64 a0_1) ∧ w'.cell? ⟨gb240, 2, none⟩ = some (.int .i64 a0_2) ∧ w'.cell? ⟨gb240, 3, none⟩ = some (.int .i64 a0_3) ∧ w'.cell? ⟨gb240, 4, none⟩ = some (.int .i64 a0_4) ∧ w'.cell? ⟨gb240, 5, none⟩ = some (.bool a0_5)) ∧ (Kd.R (Kd.int .i64) 3 w' w.heap.size (fun k_ => some k_ ≠ (s_.2 : Value).ownBlock) s_.1 y241) ∧ (Kd.R (Kd.int .i64) 3 w' w.heap.size (fun k_ => some k_ ≠ (s_.1 : Value).ownBlock) s_.2 t244) ∧ (w'.heap[gb240]? = some (.cells #[.int .i64 a0_0, .int .i64 a0_1, .int .i64 a0_2, .int .i64 a0_3, .int .i64 a0_4, .bool a0_5] 37 (0, 0))) ∧ (Below w.heap.size w w')) ?_ ?_
   rotate_left
   ·intro hCont
    refine two_ (i := 2) (j := 4) (Ni := some 5) (Nj := some 7) #[true, true, true, true, false, false, false, false] #[true, true, false, true, true, false, false, false] rfl rfl rfl rfl (two_of HT_.out (by kernel_rfl)) (by decide) (by decide) (fun K hK => ?_) (fun K hK => ?_)
    ·skip
     refine Kd.R_lit_step (Kd.int .i64) _ 3 ?hg (N := 5) ?hd (xs := ([a0_0] : List Int)) (inner := [.int .i64 a0_0]) (ok := fun _ => True) (okp := fun _ => True) ?hr ?hp (fun _ hk => hk) trivial (Below.refl _ _) (Nat.le_refl _) (by simp) ?_; (case hd => rfl); (case hg => rfl); (case hr => first | (go_simp; done) | (go_simp; rfl)); (case hp => exact (Reps.one (show Kd.M (Kd.int .i64) _ _ _ a0_0 [.int .i64 a0_0] from rfl) (Reps.none _ _)))
     intro v242 w33 ho34 hb hg_ hnew_
     clear hg_ hnew_
     (first | rw [← Ny241.out] at ho34 | (simp only [Int.reduceToNat] at ho34; rw [← Ny241.out] at ho34))
     have HO243 := am_ (Kd.R_lower ho34 (below_size (bb1_ HB GE240)))
     replace BK240 := am_ (lb_ BK240 hb)
     replace HB := am_ (below_step (bb1_ HB GE240) hb)
     clear hb ho34
     refine hK.out _ _ (by repeat' (first | apply And.intro | exact (blk_cell BK240.out _).trans rfl)) (fun hHeld => ?_)
     clear hK K
     refine nm2_ ?_
     refine one_ (i := 4) (N := some 7) #[true, true, true, true, true, false, false, false] rfl rfl (one_of HT_.out (by kernel_rfl)) (by decide) (fun K hK => ?_)
     refine goes_ Tryz.func100 (by kernel_rfl) rfl #[.agg #[.int .i64 a0_0, .int .i64 a0_1, .int .i64 a0_2, .int .i64 a0_3, .int .i64 a0_4, .bool a0_5]] (by rfl) rfl rfl args_ ?_
     with_reducible refine (impl_Shape_bends.calls (w := _) (h := A2.out)).mono ?_
     rintro e w35 ⟨v245, rfl, ho0, hb⟩
     refine ⟨_, rfl, ?_⟩
     have HO246 := am_ (Kd.R_lower (Kd.R_new' ho0 (Kd.R_lt (ra_ HO243))) (below_size (bb1_ HB GE240)))
     replace HO243 := am_ (Kd.R_elder' (ra_ HO243) (Kd.R_base ho0) hb)
     replace BK240 := am_ (lb_ BK240 hb)
     replace HB := am_ (below_step (bb1_ HB GE240) hb)
     (try clear hb)
     (try clear hb2)
     (try clear hk)
     (try clear hi)
     (try clear ho0)
     refine hK.out _ _ (by repeat' (first | apply And.intro | exact (blk_cell BK240.out _).trans rfl)) (fun hHeld => ?_)
     clear hK K
     refine nm2_ ?_
     exact norm_ (by simp only [putAll, Act.put, List.setIfInBounds_toArray, List.set_cons_zero, List.set_cons_succ]) (hCont (v242, v245) _ ⟨hHeld, (by (with_reducible repeat (first | apply rA_ | apply rN_ | apply rD_)); exact Kd.R_mono HO243.out (fun _ hk => hk.2)), (by (with_reducible repeat (first | apply rA_ | apply rN_ | apply rD_)); exact Kd.R_mono HO246.out (fun _ hk => hk.2)), (la_ BK240), (bb1_ HB GE240)⟩)
    ·skip
     refine goes_ Tryz.func100 (by kernel_rfl) rfl #[.agg #[.int .i64 a0_0, .int .i64 a0_1, .int .i64 a0_2, .int .i64 a0_3, .int .i64 a0_4, .bool a0_5]] (by rfl) rfl rfl args_ ?_
     with_reducible refine (impl_Shape_bends.calls (w := _) (h := A2.out)).mono ?_
     rintro e w33 ⟨v245, rfl, ho0, hb⟩
     refine ⟨_, rfl, ?_⟩
     have HO246 := am_ (Kd.R_lower ho0 (below_size (bb1_ HB GE240)))
     replace BK240 := am_ (lb_ BK240 hb)
     replace HB := am_ (below_step (bb1_ HB GE240) hb)
     (try clear hb)
     (try clear hb2)
     (try clear hk)
     (try clear hi)
     (try clear ho0)
     refine hK.out _ _ (by repeat' (first | apply And.intro | exact (blk_cell BK240.out _).trans rfl)) (fun hHeld => ?_)
     clear hK K
     refine nm2_ ?_
     refine one_ (i := 2) (N := some 5) #[true, true, true, true, true, false, false, false] rfl rfl (one_of HT_.out (by kernel_rfl)) (by decide) (fun K hK => ?_)
     refine Kd.R_lit_step (Kd.int .i64) _ 3 ?hg (N := 5) ?hd (xs := ([a0_0] : List Int)) (inner := [.int .i64 a0_0]) (ok := fun _ => True) (okp := fun _ => True) ?hr ?hp (fun _ hk => hk) trivial (Below.refl _ _) (Nat.le_refl _) (by simp) ?_; (case hd => rfl); (case hg => rfl); (case hr => first | (go_simp; done) | (go_simp; rfl)); (case hp => exact (Reps.one (show Kd.M (Kd.int .i64) _ _ _ a0_0 [.int .i64 a0_0] from rfl) (Reps.none _ _)))
     intro v242 w34 ho35 hb hg_ hnew_
     clear hg_ hnew_
     (first | rw [← Ny241.out] at ho35 | (simp only [Int.reduceToNat] at ho35; rw [← Ny241.out] at ho35))
     have HO243 := am_ (Kd.R_lower (Kd.R_new' ho35 (Kd.R_lt (ra_ HO246))) (below_size (bb1_ HB GE240)))
     replace HO246 := am_ (Kd.R_elder' (ra_ HO246) (Kd.R_base ho35) hb)
     replace BK240 := am_ (lb_ BK240 hb)
     replace HB := am_ (below_step (bb1_ HB GE240) hb)
     clear hb ho35
     refine hK.out _ _ (by repeat' (first | apply And.intro | exact (blk_cell BK240.out _).trans rfl)) (fun hHeld => ?_)
     clear hK K
     refine nm2_ ?_
     exact norm_ (by simp only [putAll, Act.put, List.setIfInBounds_toArray, List.set_cons_zero, List.set_cons_succ]) (hCont (v242, v245) _ ⟨hHeld, (by (with_reducible repeat (first | apply rA_ | apply rN_ | apply rD_)); exact Kd.R_mono HO243.out (fun _ hk => hk.2)), (by (with_reducible repeat (first | apply rA_ | apply rN_ | apply rD_)); exact Kd.R_mono HO246.out (fun _ hk => hk.2)), (la_ BK240), (bb1_ HB GE240)⟩)
   rintro ⟨v242, v245⟩ w36 ⟨hS_, h0_, h1_, h2_, h3_⟩
   have n0_ : Aside0 (Kd.R (Kd.int .i64) 3 w36 w.heap.size (fun k_ => some k_ ≠ (v245 : Value).ownBlock) v242 y241) := ⟨h0_⟩
   have n1_ : Aside0 (Kd.R (Kd.int .i64) 3 w36 w.heap.size (fun k_ => some k_ ≠ (v242 : Value).ownBlock) v245 t244) := ⟨h1_⟩
   have n2_ : Aside0 (w36.heap[gb240]? = some (.cells #[.int .i64 a0_0, .int .i64 a0_1, .int .i64 a0_2, .int .i64 a0_3, .int .i64 a0_4, .bool a0_5] 37 (0, 0))) := ⟨h2_⟩
   have n3_ : Aside0 (Below w.heap.size w w36) := ⟨h3_⟩
   clear BK240
   clear HB
   clear h0_ h1_ h2_ h3_
   have HO243 := n0_
   have HO246 := n1_
   have BK240 := n2_
   have HB := n3_
   clear n0_ n1_ n2_ n3_
   have hHeld : w36.cell? ⟨gb240, 0, none⟩ = some (.int .i64 a0_0) ∧ w36.cell? ⟨gb240, 1, none⟩ = some (.int .i64 a0_1) ∧ w36.cell? ⟨gb240, 2, none⟩ = some (.int .i64 a0_2) ∧ w36.cell? ⟨gb240, 3, none⟩ = some (.int .i64 a0_3) ∧ w36.cell? ⟨gb240, 4, none⟩ = some (.int .i64 a0_4) ∧ w36.cell? ⟨gb240, 5, none⟩ = some (.bool a0_5) := hS_
   obtain ⟨Ao38, co38, eo38⟩ := Kd.R_slice HO246.out
   (first | subst eo38 | (injection eo38 with f1_ f2_ f3_; have f4_ := f1_.symm; have f5_ := f3_.symm; clear f1_ f2_ f3_; subst f4_; subst f5_))
   refine norm_ (a' := ?_) ?_ ?_
   rotate_left
   ·simp only [putAll, Act.put, List.setIfInBounds_toArray, List.set_cons_zero, List.set_cons_succ]
    rfl
   refine one_ (i := 5) (N := some 8) #[true, true, true, true, true, true, false, false] rfl rfl (one_of HT_.out (by kernel_rfl)) (by decide) (fun K hK => ?_)
   refine Kd.R_append_rows_step (Kd.int .i64) (w0 := w) w.heap.size (by rfl) (.tmp 5) (.tmp 7) 81 3 (.int .i64 0) 8 rfl Tryz.underlying81 info3 rfl (by decide) (by omega) v242 y241 t244 _ _ _ (fun k_ => some k_ ≠ (.slice Ao38 t244.length co38 : Value).ownBlock) (fun _ => False) rfl rfl ?aO ?aR (fun _ _ h => h) (fun _ h => h.elim) ?aF ?aB ?aS ?aL ?_
   (case aR => exact cr_ HO246)
   (case aB => exact (bb1_ HB GE240))
   (case aF => exact (fun k_ hk => Kd.fresh' (Kd.R_lt (ra_ HO246)) k_ hk))
   (case aO => exact (ra_ HO243))
   (case aS => exact (below_size (bb1_ HB GE240)))
   (case aL => have := LMc3.out; omega)
   intro v248 w37 ho hb hg hat
   rw [← Ny247.out] at ho
   have n0_ := am_ (blk_grown (g := gb240) (o := .cells #[.int .i64 a0_0, .int .i64 a0_1, .int .i64 a0_2, .int .i64 a0_3, .int .i64 a0_4, .bool a0_5] 37 (0, 0)) (la_ BK240) hg (Kd.R_ne HO243.out BK240.out (by decide)))
   have n1_ := am_ (Kd.R_after (ok := (fun _ => True)) (by (with_reducible repeat (first | apply rA_ | apply rN_ | apply rD_)); exact Kd.R_mono HO246.out (fun _ hk => ⟨trivial, hk⟩)) hg hat)
   have n2_ := am_ (hb)
   have n3_ := am_ (ho)
   clear BK240
   clear HO246
   clear HB
   clear HO243
   have BK240 := n0_
   have HO246 := n1_
   have HB := n2_
   have HO249 := n3_
   clear n0_ n1_ n2_ n3_
   clear ho hb hg hat
   obtain ⟨Ao39, co39, eo39⟩ := Kd.R_slice HO249.out
   (first | subst eo39 | (injection eo39 with f1_ f2_ f3_; have f4_ := f1_.symm; have f5_ := f3_.symm; clear f1_ f2_ f3_; subst f4_; subst f5_))
   refine hK.out _ _ (by repeat' (first | apply And.intro | exact (blk_cell BK240.out _).trans rfl)) (fun hHeld => ?_)
   clear hK K
   refine nm2_ ?_
   refine one_ (i := 6) (N := some 9) #[true, true, true, true, true, true, true, false] rfl rfl (one_of HT_.out (by kernel_rfl)) (by decide) (fun K hK => ?_)
   refine goes_ Tryz.func121 (by kernel_rfl) rfl #[.slice Ao39 y247.length co39, .int .i64 0, .int .i64 2] (by rfl) rfl rfl args_ ?_
   with_reducible refine (impl_allWithin.calls _ _ y247 0 2 false _ ?side1 ?side2 A4.out).mono ?_
   (case side1 => exact cr_ HO249)
   (case side2 => exact (Kd.R_reads' HO249.out).2.1)
   rintro e w40 ⟨rfl, hb⟩
   refine ⟨_, rfl, ?_⟩
   replace HO246 := am_ (Kd.R_below (ra_ HO246) hb)
   replace HO249 := am_ (Kd.R_below (ra_ HO249) hb)
   replace BK240 := am_ (lb_ BK240 hb)
   replace HB := am_ (below_step (bb1_ HB GE240) hb)
   (try clear hb)
   (try clear hb2)
   (try clear hk)
   (try clear hi)
   refine hK.out _ _ (by repeat' (first | apply And.intro | exact (blk_cell BK240.out _).trans rfl)) (fun hHeld => ?_)
   clear hK K
   refine nm2_ ?_
   refine pu2_ (i := 7) (N := some 10) #[true, true, true, true, true, true, true, true] rfl rfl ?_
   refine done_ (done_of HT_.out (by kernel_rfl)) ?_
   try go_wp2
   go_ret
   exact ⟨ew_, bb1_ HB GE240⟩
 ·rw [if_neg c3] at H
  exact absurd H (by simp)

/-! ### impl_IsOrient: function 86 -/
def impl_IsOrient.f (a0_0 a0_1 : Int) : Option (Bool) := (impl_within.f a0_0 0 5).bind fun t253 => (if t253 = true then ((impl_within.f a0_1 0 5).bind fun t254 => (if t254 = true then (some ((wrap64 (Int.tdiv a0_0 2)) != (wrap64 (Int.tdiv a0_1 2)))) else (some false))) else (some false))
set_option maxHeartbeats 8000000 in
set_option maxRecDepth 100000 in
theorem impl_IsOrient.calls (a0_0 a0_1 : Int) (r : Bool) (w : World) (h : impl_IsOrient.f a0_0 a0_1 = some r) :
  Calls Tryz.prog 86 #[.agg #[.int .i64 a0_0, .int .i64 a0_1]] w fun e w' => e = .returned (.bool r) ∧ Below w.heap.size w w' := by
 have hu38 := Tryz.underlying38
 have HB := am_ (Below.refl w.heap.size w)
 have H : ((impl_within.f a0_0 0 5).bind fun t253 => (if t253 = true then ((impl_within.f a0_1 0 5).bind fun t254 => (if t254 = true then (some ((wrap64 (Int.tdiv a0_0 2)) != (wrap64 (Int.tdiv a0_1 2)))) else (some false))) else (some false))) = some r := h
 clear h
 replace H := Option.bind_eq_some_iff.mp H
 obtain ⟨t253, A20, H⟩ := H
 try dsimp only at H
 have A2 := Aside0.mk A20
 clear A20
 by_cases c3 : t253 = true
 ·subst c3
  have H1 : ((impl_within.f a0_1 0 5).bind fun t254 => (if t254 = true then (some ((wrap64 (Int.tdiv a0_0 2)) != (wrap64 (Int.tdiv a0_1 2)))) else (some false))) = some r := by rw [if_pos rfl] at H; exact H
  clear H
  have H := H1
  clear H1
  replace H := Option.bind_eq_some_iff.mp H
  obtain ⟨t254, A40, H⟩ := H
  try dsimp only at H
  have A4 := Aside0.mk A40
  clear A40
  by_cases c5 : t254 = true
  ·subst c5
   have H1 : (some ((wrap64 (Int.tdiv a0_0 2)) != (wrap64 (Int.tdiv a0_1 2)))) = some r := by rw [if_pos rfl] at H; exact H
   clear H
   have H := H1
   clear H1
   obtain rfl := Option.some.inj H
   go_enter Tryz.func86, Tryz.ntmps86
   go_wp2_with (first | ((with_reducible refine gate_dst (N := 1) rfl ?_); refine bx_ (cs := #[.int .i64 a0_0, .int .i64 a0_1]) (t := 38) ?_; intro gb252 hg w6 hbox hb; have BK252 := am_ (hbox); have GW252 := gz_ hg HB; have GE252 := gz_ hg HB; replace HB := am_ (bt_ HB hb); clear hb hbox hg; have hcz7_0 := cz0_ BK252; have hcz7_1 := cz1_ BK252) | ((with_reducible refine gate_callee (f := 63) rfl ?_); refine goesL_ (some 5) rfl rfl Tryz.func63 (by kernel_rfl) rfl #[.int .i64 a0_0, .int .i64 0, .int .i64 5] rfl args_ ?_; (with_reducible refine (impl_within.calls a0_0 0 5 true _ A2.out).mono ?_); rintro e w' ⟨rfl, ⟨nd, rfl⟩⟩; refine ⟨_, rfl, ?_⟩) | (go_at_call 63; (with_reducible refine (impl_within.calls a0_1 0 5 true _ A4.out).mono ?_); rintro e w' ⟨rfl, ⟨nd, rfl⟩⟩))
   go_ret
   exact ⟨ew_, bb1_ HB GE252⟩
  ·replace c5 := Bool.eq_false_iff.mpr c5
   subst c5
   have H1 : (some false) = some r := by rw [if_neg (show ¬ (false = true) by decide)] at H; exact H
   clear H
   have H := H1
   clear H1
   obtain rfl := Option.some.inj H
   go_enter Tryz.func86, Tryz.ntmps86
   go_wp2_with (first | ((with_reducible refine gate_dst (N := 1) rfl ?_); refine bx_ (cs := #[.int .i64 a0_0, .int .i64 a0_1]) (t := 38) ?_; intro gb252 hg w8 hbox hb; have BK252 := am_ (hbox); have GW252 := gz_ hg HB; have GE252 := gz_ hg HB; replace HB := am_ (bt_ HB hb); clear hb hbox hg; have hcz9_0 := cz0_ BK252; have hcz9_1 := cz1_ BK252) | ((with_reducible refine gate_callee (f := 63) rfl ?_); refine goesL_ (some 5) rfl rfl Tryz.func63 (by kernel_rfl) rfl #[.int .i64 a0_0, .int .i64 0, .int .i64 5] rfl args_ ?_; (with_reducible refine (impl_within.calls a0_0 0 5 true _ A2.out).mono ?_); rintro e w' ⟨rfl, ⟨nd, rfl⟩⟩; refine ⟨_, rfl, ?_⟩) | (go_at_call 63; (with_reducible refine (impl_within.calls a0_1 0 5 false _ A4.out).mono ?_); rintro e w' ⟨rfl, ⟨nd, rfl⟩⟩))
   go_ret
   exact ⟨ew_, bb1_ HB GE252⟩
 ·replace c3 := Bool.eq_false_iff.mpr c3
  subst c3
  have H1 : (some false) = some r := by rw [if_neg (show ¬ (false = true) by decide)] at H; exact H
  clear H
  have H := H1
  clear H1
  obtain rfl := Option.some.inj H
  go_enter Tryz.func86, Tryz.ntmps86
  go_wp2_with (first | ((with_reducible refine gate_dst (N := 1) rfl ?_); refine bx_ (cs := #[.int .i64 a0_0, .int .i64 a0_1]) (t := 38) ?_; intro gb252 hg w10 hbox hb; have BK252 := am_ (hbox); have GW252 := gz_ hg HB; have GE252 := gz_ hg HB; replace HB := am_ (bt_ HB hb); clear hb hbox hg; have hcz11_0 := cz0_ BK252; have hcz11_1 := cz1_ BK252) | ((with_reducible refine gate_callee (f := 63) rfl ?_); refine goesL_ (some 5) rfl rfl Tryz.func63 (by kernel_rfl) rfl #[.int .i64 a0_0, .int .i64 0, .int .i64 5] rfl args_ ?_; (with_reducible refine (impl_within.calls a0_0 0 5 false _ A2.out).mono ?_); rintro e w' ⟨rfl, ⟨nd, rfl⟩⟩; refine ⟨_, rfl, ?_⟩))
  go_ret
  exact ⟨ew_, bb1_ HB GE252⟩

/-! ### impl_IsPlace: function 87 -/
def impl_IsPlace.f (a0_0 a0_1 : Int) (a0_2 : Bool) : Option (Bool) := (impl_within.f a0_0 0 9).bind fun t256 => (if t256 = true then ((impl_within.f a0_1 (-1) 1).bind fun t257 => (if t257 = true then (if a0_2 = true then (some (!(a0_0 == 0))) else (some (!false))) else (some false))) else (some false))
set_option maxHeartbeats 8000000 in
set_option maxRecDepth 100000 in
theorem impl_IsPlace.calls (a0_0 a0_1 : Int) (a0_2 r : Bool) (w : World) (h : impl_IsPlace.f a0_0 a0_1 a0_2 = some r) :
  Calls Tryz.prog 87 #[.agg #[.int .i64 a0_0, .int .i64 a0_1, .bool a0_2]] w fun e w' => e = .returned (.bool r) ∧ Below w.heap.size w w' := by
 have hu39 := Tryz.underlying39
 have HB := am_ (Below.refl w.heap.size w)
 have H : ((impl_within.f a0_0 0 9).bind fun t256 => (if t256 = true then ((impl_within.f a0_1 (-1) 1).bind fun t257 => (if t257 = true then (if a0_2 = true then (some (!(a0_0 == 0))) else (some (!false))) else (some false))) else (some false))) = some r := h
 clear h
 replace H := Option.bind_eq_some_iff.mp H
 obtain ⟨t256, A20, H⟩ := H
 try dsimp only at H
 have A2 := Aside0.mk A20
 clear A20
 by_cases c3 : t256 = true
 ·subst c3
  have H1 : ((impl_within.f a0_1 (-1) 1).bind fun t257 => (if t257 = true then (if a0_2 = true then (some (!(a0_0 == 0))) else (some (!false))) else (some false))) = some r := by rw [if_pos rfl] at H; exact H
  clear H
  have H := H1
  clear H1
  replace H := Option.bind_eq_some_iff.mp H
  obtain ⟨t257, A40, H⟩ := H
  try dsimp only at H
  have A4 := Aside0.mk A40
  clear A40
  by_cases c5 : t257 = true
  ·subst c5
   have H1 : (if a0_2 = true then (some (!(a0_0 == 0))) else (some (!false))) = some r := by rw [if_pos rfl] at H; exact H
   clear H
   have H := H1
   clear H1
   by_cases c6 : a0_2 = true
   ·subst c6
    have H1 : (some (!(a0_0 == 0))) = some r := by rw [if_pos rfl] at H; exact H
    clear H
    have H := H1
    clear H1
    obtain rfl := Option.some.inj H
    go_enter Tryz.func87, Tryz.ntmps87
    go_wp2_with (first | ((with_reducible refine gate_dst (N := 1) rfl ?_); refine bx_ (cs := #[.int .i64 a0_0, .int .i64 a0_1, .bool true]) (t := 39) ?_; intro gb255 hg w7 hbox hb; have BK255 := am_ (hbox); have GW255 := gz_ hg HB; have GE255 := gz_ hg HB; replace HB := am_ (bt_ HB hb); clear hb hbox hg; have hcz8_0 := cz0_ BK255; have hcz8_1 := cz1_ BK255; have hcz8_2 := cz2_ BK255) | ((with_reducible refine gate_callee (f := 63) rfl ?_); refine goesL_ (some 5) rfl rfl Tryz.func63 (by kernel_rfl) rfl #[.int .i64 a0_0, .int .i64 0, .int .i64 9] rfl args_ ?_; (with_reducible refine (impl_within.calls a0_0 0 9 true _ A2.out).mono ?_); rintro e w' ⟨rfl, ⟨nd, rfl⟩⟩; refine ⟨_, rfl, ?_⟩) | (go_at_call 63; (with_reducible refine (impl_within.calls a0_1 (-1) 1 true _ A4.out).mono ?_); rintro e w' ⟨rfl, ⟨nd, rfl⟩⟩))
    go_ret
    exact ⟨ew_, bb1_ HB GE255⟩
   ·replace c6 := Bool.eq_false_iff.mpr c6
    subst c6
    have H1 : (some (!false)) = some r := by rw [if_neg (show ¬ (false = true) by decide)] at H; exact H
    clear H
    have H := H1
    clear H1
    obtain rfl := Option.some.inj H
    go_enter Tryz.func87, Tryz.ntmps87
    go_wp2_with (first | ((with_reducible refine gate_dst (N := 1) rfl ?_); refine bx_ (cs := #[.int .i64 a0_0, .int .i64 a0_1, .bool false]) (t := 39) ?_; intro gb255 hg w9 hbox hb; have BK255 := am_ (hbox); have GW255 := gz_ hg HB; have GE255 := gz_ hg HB; replace HB := am_ (bt_ HB hb); clear hb hbox hg; have hcz10_0 := cz0_ BK255; have hcz10_1 := cz1_ BK255; have hcz10_2 := cz2_ BK255) | ((with_reducible refine gate_callee (f := 63) rfl ?_); refine goesL_ (some 5) rfl rfl Tryz.func63 (by kernel_rfl) rfl #[.int .i64 a0_0, .int .i64 0, .int .i64 9] rfl args_ ?_; (with_reducible refine (impl_within.calls a0_0 0 9 true _ A2.out).mono ?_); rintro e w' ⟨rfl, ⟨nd, rfl⟩⟩; refine ⟨_, rfl, ?_⟩) | (go_at_call 63; (with_reducible refine (impl_within.calls a0_1 (-1) 1 true _ A4.out).mono ?_); rintro e w' ⟨rfl, ⟨nd, rfl⟩⟩))
    go_ret
    exact ⟨ew_, bb1_ HB GE255⟩
  ·replace c5 := Bool.eq_false_iff.mpr c5
   subst c5
   have H1 : (some false) = some r := by rw [if_neg (show ¬ (false = true) by decide)] at H; exact H
   clear H
   have H := H1
   clear H1
   obtain rfl := Option.some.inj H
   go_enter Tryz.func87, Tryz.ntmps87
   go_wp2_with (first | ((with_reducible refine gate_dst (N := 1) rfl ?_); refine bx_ (cs := #[.int .i64 a0_0, .int .i64 a0_1, .bool a0_2]) (t := 39) ?_; intro gb255 hg w11 hbox hb; have BK255 := am_ (hbox); have GW255 := gz_ hg HB; have GE255 := gz_ hg HB; replace HB := am_ (bt_ HB hb); clear hb hbox hg; have hcz12_0 := cz0_ BK255; have hcz12_1 := cz1_ BK255; have hcz12_2 := cz2_ BK255) | ((with_reducible refine gate_callee (f := 63) rfl ?_); refine goesL_ (some 5) rfl rfl Tryz.func63 (by kernel_rfl) rfl #[.int .i64 a0_0, .int .i64 0, .int .i64 9] rfl args_ ?_; (with_reducible refine (impl_within.calls a0_0 0 9 true _ A2.out).mono ?_); rintro e w' ⟨rfl, ⟨nd, rfl⟩⟩; refine ⟨_, rfl, ?_⟩) | (go_at_call 63; (with_reducible refine (impl_within.calls a0_1 (-1) 1 false _ A4.out).mono ?_); rintro e w' ⟨rfl, ⟨nd, rfl⟩⟩))
   go_ret
   exact ⟨ew_, bb1_ HB GE255⟩
 ·replace c3 := Bool.eq_false_iff.mpr c3
  subst c3
  have H1 : (some false) = some r := by rw [if_neg (show ¬ (false = true) by decide)] at H; exact H
  clear H
  have H := H1
  clear H1
  obtain rfl := Option.some.inj H
  go_enter Tryz.func87, Tryz.ntmps87
  go_wp2_with (first | ((with_reducible refine gate_dst (N := 1) rfl ?_); refine bx_ (cs := #[.int .i64 a0_0, .int .i64 a0_1, .bool a0_2]) (t := 39) ?_; intro gb255 hg w13 hbox hb; have BK255 := am_ (hbox); have GW255 := gz_ hg HB; have GE255 := gz_ hg HB; replace HB := am_ (bt_ HB hb); clear hb hbox hg; have hcz14_0 := cz0_ BK255; have hcz14_1 := cz1_ BK255; have hcz14_2 := cz2_ BK255) | ((with_reducible refine gate_callee (f := 63) rfl ?_); refine goesL_ (some 5) rfl rfl Tryz.func63 (by kernel_rfl) rfl #[.int .i64 a0_0, .int .i64 0, .int .i64 9] rfl args_ ?_; (with_reducible refine (impl_within.calls a0_0 0 9 false _ A2.out).mono ?_); rintro e w' ⟨rfl, ⟨nd, rfl⟩⟩; refine ⟨_, rfl, ?_⟩))
  go_ret
  exact ⟨ew_, bb1_ HB GE255⟩

/-! ### strings_IndexByte: function 141 -/
def strings_IndexByte.f (a0 : ByteArray) (a1 : Int) : Option Int := some (Lib.indexByte a0.data.toList a1.toNat.toUInt8)
theorem strings_IndexByte.calls (a0 : ByteArray) (a1 r : Int) (w : World) (h : strings_IndexByte.f a0 a1 = some r) :
  Calls Tryz.prog 141 #[.string a0, .int .u8 a1] w fun e w' => e = .returned (.int .i64 r) ∧ Drawn0 w w' := by
 obtain rfl := Option.some.inj h
 exact (Tryz.strings_IndexByte a0 a1 w).mono fun e w' ⟨he, hw⟩ => ⟨he, hw ▸ Drawn0.refl _⟩

/-! ### impl_hasOnly: function 123 -/
def impl_hasOnly.l0 : Nat → ByteArray → ByteArray → Int → Int → Option (Bool)
 | 0, _, _, _, _ => none
 | k + 1, x0, x1, x7, x8 => if x8 < x7 then (if 0 ≤ x8 then (if x8 < (x0.size : Int) then ((strings_IndexByte.f x1 (bt x0 x8)).bind fun t258 => (if t258 < 0 then (some false) else (impl_hasOnly.l0 k x0 x1 x7 (wrap64 (x8 + 1))))) else (none)) else (none)) else (some true)
def impl_hasOnly.f (k : Nat) (a0 a1 : ByteArray) : Option (Bool) := impl_hasOnly.l0 k a0 a1 (a0.size : Int) 0
theorem impl_hasOnly.mono_l : ∀ k, (∀ y0 y1 y2 y3, LeO (impl_hasOnly.l0 k y0 y1 y2 y3) (impl_hasOnly.l0 (k + 1) y0 y1 y2 y3))
 | 0 => fun _ _ _ _ r h => by simp [impl_hasOnly.l0] at h
 | k + 1 => by
  have ih0 := impl_hasOnly.mono_l k
  ·intro y0 y1 y2 y3
   unfold impl_hasOnly.l0
   repeat' first
   | (with_reducible exact ih0 _ _ _ _)
   | (with_reducible exact LeO.refl _)
   | (with_reducible exact LeO.none _)
   | (with_reducible refine LeO.ite ?_ ?_)
   | (with_reducible refine LeO.bind ?_ (fun _ => ?_))
   | exact ih0 _ _ _ _
   | exact LeO.none _
   | refine LeO.ite ?_ ?_
   | refine LeO.bind ?_ (fun _ => ?_)
theorem impl_hasOnly.mono : ∀ a0 a1 k, LeO (impl_hasOnly.f k a0 a1) (impl_hasOnly.f (k + 1) a0 a1) := by
 intro a0 a1 k
 have ih0 := impl_hasOnly.mono_l k
 unfold impl_hasOnly.f
 repeat' first
   | (with_reducible exact ih0 _ _ _ _)
   | (with_reducible exact LeO.refl _)
   | (with_reducible exact LeO.none _)
   | (with_reducible refine LeO.ite ?_ ?_)
   | (with_reducible refine LeO.bind ?_ (fun _ => ?_))
   | exact ih0 _ _ _ _
   | exact LeO.none _
   | refine LeO.ite ?_ ?_
   | refine LeO.bind ?_ (fun _ => ?_)
set_option maxHeartbeats 8000000 in
set_option maxRecDepth 100000 in
theorem impl_hasOnly.calls (k : Nat) (a0 a1 : ByteArray) (r : Bool) (w : World) (h : impl_hasOnly.f k a0 a1 = some r) :
  Calls Tryz.prog 123 #[.string a0, .string a1] w fun e w' => e = .returned (.bool r) ∧ Drawn0 w w' := by
 have H : (impl_hasOnly.l0 k a0 a1 (a0.size : Int) 0) = some r := h
 clear h
 have H' := Aside0.mk H
 clear H
 go_enter Tryz.func123, Tryz.ntmps123
 go_wp2
 go_loopg [8] k (fun kq v8 w' => ∃ (x8_1 : Int), v8 = .int .i64 x8_1 ∧ Aside0 (impl_hasOnly.l0 kq a0 a1 (a0.size : Int) x8_1 = some r) ∧ Aside0 (kq ≤ k) ∧ Drawn0 w w')
 case atStart => exact ⟨(0), (by first | rfl | (simp; done) | (simp [*]; done)), H', ⟨Nat.le_refl _⟩, by repeat (first | exact Drawn0.refl _ | apply Drawn0.step)⟩
 case round =>
  clear H'
  try clear c1
  try clear p2
  obtain ⟨x8_1, rfl, HA, HK1, ⟨m1, rfl⟩⟩ := hrel
  cases gk with
  | zero => exact absurd HA.out (by simp [impl_hasOnly.l0])
  | succ k1 =>
   have H := HA.out
   clear HA
   simp only [impl_hasOnly.l0] at H
   by_cases c3 : x8_1 < (a0.size : Int)
   ·rw [if_pos c3] at H
    have c3b0 : decide (x8_1 < (a0.size : Int)) = true := decide_eq_true c3
    clear c3
    by_cases c4 : 0 ≤ x8_1
    ·rw [if_pos c4] at H
     have c4b0 : decide (0 ≤ x8_1) = true := decide_eq_true c4
     clear c4
     by_cases c5 : x8_1 < (a0.size : Int)
     ·rw [if_pos c5] at H
      have c5b0 : decide (x8_1 < (a0.size : Int)) = true := decide_eq_true c5
      clear c5
      replace H := Option.bind_eq_some_iff.mp H
      obtain ⟨t258, A70, H⟩ := H
      try dsimp only at H
      have A7 := Aside0.mk A70
      clear A70
      by_cases c8 : t258 < 0
      ·rw [if_pos c8] at H
       have c8b0 : decide (t258 < 0) = true := decide_eq_true c8
       clear c8
       obtain rfl := Option.some.inj H
       have p6 : 0 ≤ (x8_1 : Int) := of_decide_eq_true as_
       have q6 : x8_1 < (a0.size : Int) := of_decide_eq_true as_
       have hx6 := bt_at a0 x8_1
       replace p6 := eq_true p6
       replace q6 := eq_true q6
       go_wp2_with (first | ((with_reducible refine gate_callee (f := 141) rfl ?_); refine goesL_ (some 15) rfl rfl Tryz.func141 (by kernel_rfl) rfl #[.string a1, .int .u8 (bt a0 x8_1)] rfl args_ ?_; (with_reducible refine (strings_IndexByte.calls a1 (bt a0 x8_1) t258 _ A7.out).mono ?_); rintro e w' ⟨rfl, ⟨nd, rfl⟩⟩; refine ⟨_, rfl, ?_⟩))
       go_ret
       exact ⟨by first | rfl | (simp; done) | (simp [*]; done), by repeat (first | exact Drawn0.refl _ | apply Drawn0.step)⟩
      ·rw [if_neg c8] at H
       have c8b0 : decide (t258 < 0) = false := decide_eq_false c8
       clear c8
       have H' := Aside0.mk H
       clear H
       have p6 : 0 ≤ (x8_1 : Int) := of_decide_eq_true as_
       have q6 : x8_1 < (a0.size : Int) := of_decide_eq_true as_
       have hx6 := bt_at a0 x8_1
       replace p6 := eq_true p6
       replace q6 := eq_true q6
       go_wp2_with (first | ((with_reducible refine gate_callee (f := 141) rfl ?_); refine goesL_ (some 15) rfl rfl Tryz.func141 (by kernel_rfl) rfl #[.string a1, .int .u8 (bt a0 x8_1)] rfl args_ ?_; (with_reducible refine (strings_IndexByte.calls a1 (bt a0 x8_1) t258 _ A7.out).mono ?_); rintro e w' ⟨rfl, ⟨nd, rfl⟩⟩; refine ⟨_, rfl, ?_⟩))
       go_roundg k1
       case measure => have := HK1.out; omega
       case rel => exact ⟨(wrap64 (x8_1 + 1)), (by first | rfl | (simp; done) | (simp [*]; done)), H', ⟨by have := HK1.out; omega⟩, by repeat (first | exact Drawn0.refl _ | apply Drawn0.step)⟩
     ·rw [if_neg c5] at H
      exact absurd H (by simp)
    ·rw [if_neg c4] at H
     exact absurd H (by simp)
   ·rw [if_neg c3] at H
    have c3b0 : decide (x8_1 < (a0.size : Int)) = false := decide_eq_false c3
    clear c3
    obtain rfl := Option.some.inj H
    go_wp2
    go_ret
    exact ⟨by first | rfl | (simp; done) | (simp [*]; done), by repeat (first | exact Drawn0.refl _ | apply Drawn0.step)⟩

end Go.Proofs.YtmbffgkejknfaaaGreatDoor.PA
