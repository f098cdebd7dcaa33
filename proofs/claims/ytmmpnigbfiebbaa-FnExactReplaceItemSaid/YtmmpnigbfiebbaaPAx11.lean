-- Written by a program of this session (wip/tools/myprint.py). Not trusted: Lean checks it.
import Derived.Test.YtmmpnigbfiebbaaPAx0
import Derived.Test.YtmmpnigbfiebbaaPAx5
import Derived.Test.YtmmpnigbfiebbaaPAx8
import Derived.Test.YtmmpnigbfiebbaaPAx10
namespace Go.Proofs.Ytmmpnigbfiebbaa.PA
open Go.RowKit Go.Proofs.YtmmpnigbfiebbaaW.PrintWords Go.Proofs.YtmmpnigbfiebbaaW.PrintLast Go.Proofs.YtmmpnigbfiebbaaW.PrintMore
attribute [local go_sem] max2_int min2_int max_two min_two max_three min_three max_four min_four   -- for this text's walks alone
set_option linter.unusedVariables false
set_option linter.unusedSimpArgs false

/-! ### spec_unDo: function 71 -/
def spec_unDo.f (k : Nat) (l0_0 : List ByteArray) (l0_1 : List (S25)) (l0_2 : List (S25)) (a1_0 : Int) (a1_1 : Int) (a1_2 : ByteArray) (a1_3 : ByteArray) : Option (List ByteArray × (List (S25)) × (List (S25)) × Bool) := (spec_unNow.f k l0_0 l0_1 l0_2).bind fun t1021 => ((spec_unMake.f k t1021 a1_0 a1_1 a1_2 a1_3).bind fun bt1024 => (if bt1024.2 = true then (if (l0_1.length : Int) = 30 then (some (([] : List ByteArray), ([] : List (S25)), ([] : List (S25)), false)) else ((some (([] : List (S25)) : List (S25))).bind fun y1028 => (if y1028.length + l0_1.length < 2932031007402 then ((some (y1028 ++ l0_1 : List (S25))).bind fun y1031 => ((some (([(⟨a1_0, a1_1, a1_2, a1_3⟩ : S25)] : List (S25)) : List (S25))).bind fun y1034 => (if y1031.length + y1034.length < 2932031007402 then ((spec_unDesk.f l0_0 l0_1 l0_2 (y1031 ++ y1034) ([] : List (S25))).bind fun bt1040 => (some (bt1040.1, bt1040.2.1, bt1040.2.2, true))) else (none)))) else (none)))) else (some (([] : List ByteArray), ([] : List (S25)), ([] : List (S25)), false))))
theorem spec_unDo.mono : ∀ a0 a1 a2 a3 a4 a5 a6 k, LeO (spec_unDo.f k a0 a1 a2 a3 a4 a5 a6) (spec_unDo.f (k + 1) a0 a1 a2 a3 a4 a5 a6) := by
 intro a0 a1 a2 a3 a4 a5 a6 k
 unfold spec_unDo.f
 repeat' first
   | (with_reducible exact spec_unMake.mono _ _ _ _ _ _)
   | (with_reducible exact spec_unNow.mono _ _ _ _)
   | (with_reducible exact LeO.refl _)
   | (with_reducible exact LeO.none _)
   | (with_reducible refine LeO.ite ?_ ?_)
   | (with_reducible refine LeO.bind ?_ (fun _ => ?_))
   | exact LeO.none _
   | refine LeO.ite ?_ ?_
   | refine LeO.bind ?_ (fun _ => ?_)
def spec_unDo.T1 : Bool × List (List Nat × List Nat) := (true, [([], []), ([0], [0]), ([], []), ([1, 2, 1], [1, 2]), ([3], [3]), ([4], [4]), ([4], [4]), ([5, 3, 0, 1, 2, 3, 4, 5], [5]), ([6, 7, 0, 1, 2, 3, 4, 5, 6, 7], [6])])
def spec_unDo.B1 : List Nat := [0, 1, 0, 7, 15, 31, 31, 63, 255]
theorem spec_unDo.tab1 : rtab .any (opsOf Try.f71 1) = spec_unDo.T1 := by kernel_rfl
theorem spec_unDo.bits1 : waitsOk spec_unDo.T1.2 spec_unDo.B1 = true := by kernel_rfl
def spec_unDo.T4 : Bool × List (List Nat × List Nat) := (true, [([], []), ([], []), ([], []), ([2], [2]), ([1, 3], [1, 3]), ([], []), ([5], [5]), ([4, 6, 4], [4, 6]), ([0, 7, 7], [0, 7]), ([8, 8, 0, 1, 2, 3, 4, 5, 6, 7, 8], [8]), ([9, 0, 1, 2, 3, 4, 5, 6, 7, 8, 9], [])])
def spec_unDo.B4 : List Nat := [0, 0, 0, 4, 14, 0, 32, 126, 255, 511, 1023]
theorem spec_unDo.tab4 : rtab .any (opsOf Try.f71 4) = spec_unDo.T4 := by kernel_rfl
theorem spec_unDo.bits4 : waitsOk spec_unDo.T4.2 spec_unDo.B4 = true := by kernel_rfl
set_option maxHeartbeats 8000000 in
set_option maxRecDepth 100000 in
theorem spec_unDo.calls (k : Nat) (A0_0 : Option Addr) (c0_0 : Nat) (l0_0 : List ByteArray) (A0_1 : Option Addr) (c0_1 : Nat) (l0_1 : List (S25)) (A0_2 : Option Addr) (c0_2 : Nat) (l0_2 : List (S25)) (a1_0 : Int) (a1_1 : Int) (a1_2 : ByteArray) (a1_3 : ByteArray) (r1 : List ByteArray) (r2 : List (S25)) (r3 : List (S25)) (r4 : Bool) (w : World) (hr0_0 : Kd.C Kd.string w A0_0 l0_0.length l0_0) (hc0_0 : l0_0.length ≤ c0_0) (hr0_1 : Kd.C k25 w A0_1 l0_1.length l0_1) (hc0_1 : l0_1.length ≤ c0_1) (hr0_2 : Kd.C k25 w A0_2 l0_2.length l0_2) (hc0_2 : l0_2.length ≤ c0_2) (h : spec_unDo.f k l0_0 l0_1 l0_2 a1_0 a1_1 a1_2 a1_3 = some (r1, r2, r3, r4)) :
  Calls Try.prog 71 #[.agg #[.slice A0_0 l0_0.length c0_0, .slice A0_1 l0_1.length c0_1, .slice A0_2 l0_2.length c0_2], .agg #[.int .i64 a1_0, .int .i64 a1_1, .string a1_2, .string a1_3]] w fun e w' => ∃ v0_ v1_ v2_ : Value, e = .returned (.tuple #[.agg #[v0_, v1_, v2_], .bool r4]) ∧ Kd.R Kd.string 9 w' w.heap.size (fun _ => True) v0_ r1 ∧ Kd.R k25 25 w' w.heap.size (fun k_ => some k_ ≠ (v2_ : Value).ownBlock) v1_ r2 ∧ Kd.R k25 25 w' w.heap.size (fun k_ => some k_ ≠ (v1_ : Value).ownBlock) v2_ r3 ∧ Below w.heap.size w w' := by
 have hu35 := Try.underlying35
 have hu25 := Try.underlying25
 have HR0_0 := Aside0.mk hr0_0
 have HC0_0 := Aside0.mk hc0_0
 clear hr0_0 hc0_0
 have HR0_1 := Aside0.mk hr0_1
 have HC0_1 := Aside0.mk hc0_1
 clear hr0_1 hc0_1
 have HR0_2 := Aside0.mk hr0_2
 have HC0_2 := Aside0.mk hc0_2
 clear hr0_2 hc0_2
 have HB := Aside0.mk (Below.refl w.heap.size w)
 have H : ((spec_unNow.f k l0_0 l0_1 l0_2).bind fun t1021 => ((spec_unMake.f k t1021 a1_0 a1_1 a1_2 a1_3).bind fun bt1024 => (if bt1024.2 = true then (if (l0_1.length : Int) = 30 then (some (([] : List ByteArray), ([] : List (S25)), ([] : List (S25)), false)) else ((some (([] : List (S25)) : List (S25))).bind fun y1028 => (if y1028.length + l0_1.length < 2932031007402 then ((some (y1028 ++ l0_1 : List (S25))).bind fun y1031 => ((some (([(⟨a1_0, a1_1, a1_2, a1_3⟩ : S25)] : List (S25)) : List (S25))).bind fun y1034 => (if y1031.length + y1034.length < 2932031007402 then ((spec_unDesk.f l0_0 l0_1 l0_2 (y1031 ++ y1034) ([] : List (S25))).bind fun bt1040 => (some (bt1040.1, bt1040.2.1, bt1040.2.2, true))) else (none)))) else (none)))) else (some (([] : List ByteArray), ([] : List (S25)), ([] : List (S25)), false))))) = some (r1, r2, r3, r4) := h
 clear h
 replace H := Option.bind_eq_some_iff.mp H
 obtain ⟨t1021, A30, H⟩ := H
 try dsimp only at H
 have A3 := Aside0.mk A30
 clear A30
 replace H := Option.bind_eq_some_iff.mp H
 obtain ⟨⟨t1024, t1027⟩, A40, H⟩ := H
 try dsimp only at H
 have A4 := Aside0.mk A40
 clear A40
 by_cases c5 : t1027 = true
 ·subst c5
  have H1 : (if (l0_1.length : Int) = 30 then (some (([] : List ByteArray), ([] : List (S25)), ([] : List (S25)), false)) else ((some (([] : List (S25)) : List (S25))).bind fun y1028 => (if y1028.length + l0_1.length < 2932031007402 then ((some (y1028 ++ l0_1 : List (S25))).bind fun y1031 => ((some (([(⟨a1_0, a1_1, a1_2, a1_3⟩ : S25)] : List (S25)) : List (S25))).bind fun y1034 => (if y1031.length + y1034.length < 2932031007402 then ((spec_unDesk.f l0_0 l0_1 l0_2 (y1031 ++ y1034) ([] : List (S25))).bind fun bt1040 => (some (bt1040.1, bt1040.2.1, bt1040.2.2, true))) else (none)))) else (none)))) = some (r1, r2, r3, r4) := by rw [if_pos rfl] at H; exact H
  clear H
  have H := H1
  clear H1
  by_cases c6 : (l0_1.length : Int) = 30
  ·rw [if_pos c6] at H
   have c6b0 : ((l0_1.length : Int) == 30) = true := beq_iff_eq.mpr c6
   have c6b1 : ((l0_1.length : Int) != 30) = false := bne_eq_false_iff_eq.mpr c6
   clear c6
   simp only [Option.some.injEq, Prod.mk.injEq] at H
   obtain ⟨rfl, rfl, rfl, rfl⟩ := H
   go_enter Try.func71, Try.ntmps71
   try go_wp2_with (first | ((with_reducible refine gate_dst (N := 2) rfl ?_); (try (refine gate_guard (by rfl) ?_; dsimp only)); refine box_event ?hg (N := 2) ?hd (cs := #[.slice A0_0 l0_0.length c0_0, .slice A0_1 l0_1.length c0_1, .slice A0_2 l0_2.length c0_2]) (t := 35) ?hr ?_; (case hd => rfl); (case hg => rfl); (case hr => first | (go_simp; done) | (go_simp; rfl)); intro gb1018 hg w7 hbox hb; have n0_ := Aside0.mk (bt_ HB hb); have n1_ := Aside0.mk (hbox); have n2_ := gz_ hg HB; have n3_ := gz_ hg HB; clear HB; have HB := n0_; have BK1018 := n1_; have GW1018 := n2_; have GE1018 := n3_; clear n0_ n1_ n2_ n3_; clear hb hbox hg) | ((with_reducible refine gate_dst (N := 3) rfl ?_); (try (refine gate_guard (by rfl) ?_; dsimp only)); refine box_event ?hg (N := 3) ?hd (cs := #[.int .i64 a1_0, .int .i64 a1_1, .string a1_2, .string a1_3]) (t := 25) ?hr ?_; (case hd => rfl); (case hg => rfl); (case hr => first | (go_simp; done) | (go_simp; rfl)); intro gb1019 hg w8 hbox hb; have n0_ := Aside0.mk (lb_ BK1018 hb); have n1_ := Aside0.mk (below_step (bb1_ HB GE1018) hb); have n2_ := Aside0.mk (hbox); have n3_ := gy_ hg (bb1_ HB GE1018); have n4_ := gy_ hg (bb1_ HB GE1018); have n5_ := nl_ hg BK1018; have n6_ := ng_ hg BK1018; clear BK1018; clear HB; have BK1018 := n0_; have HB := n1_; have BK1019 := n2_; have GW1019 := n3_; have GE1019 := n4_; have NB1018_1019 := n5_; have NB1019_1018 := n6_; clear n0_ n1_ n2_ n3_ n4_ n5_ n6_; clear hb hbox hg) | ((with_reducible refine gate_dst (N := 4) rfl ?_); (try (refine gate_guard (by rfl) ?_; dsimp only)); refine box_event ?hg (N := 4) ?hd (cs := #[.slice none 0 0, .slice none 0 0, .slice none 0 0]) (t := 35) ?hr ?_; (case hd => rfl); (case hg => rfl); (case hr => first | (go_simp; done) | (go_simp; rfl)); intro gb1020 hg w9 hbox hb; have n0_ := Aside0.mk (lb_ BK1018 hb); have n1_ := Aside0.mk (lb_ BK1019 hb); have n2_ := Aside0.mk (below_step (bb2_ HB GE1018 GE1019) hb); have n3_ := Aside0.mk (hbox); have n4_ := gy_ hg (bb2_ HB GE1018 GE1019); have n5_ := gy_ hg (bb2_ HB GE1018 GE1019); have n6_ := nl_ hg BK1018; have n7_ := ng_ hg BK1018; have n8_ := nl_ hg BK1019; have n9_ := ng_ hg BK1019; clear BK1018; clear BK1019; clear HB; have BK1018 := n0_; have BK1019 := n1_; have HB := n2_; have BK1020 := n3_; have GW1020 := n4_; have GE1020 := n5_; have NB1018_1020 := n6_; have NB1020_1018 := n7_; have NB1019_1020 := n8_; have NB1020_1019 := n9_; clear n0_ n1_ n2_ n3_ n4_ n5_ n6_ n7_ n8_ n9_; clear hb hbox hg))
   have n0_ := Aside0.mk (blk_drew BK1018.out)
   have n1_ := Aside0.mk (blk_drew BK1019.out)
   have n2_ := Aside0.mk (blk_drew BK1020.out)
   have n3_ := Aside0.mk (below_drew1 HB.out)
   clear BK1018
   clear BK1019
   clear BK1020
   clear HB
   have BK1018 := n0_
   have BK1019 := n1_
   have BK1020 := n2_
   have HB := n3_
   clear n0_ n1_ n2_ n3_
   refine start_ (n := 9) (S := fun w' => w'.cell? ⟨gb1018, 0, none⟩ = some (.slice A0_0 l0_0.length c0_0) ∧ w'.cell? ⟨gb1018, 1, none⟩ = some (.slice A0_1 l0_1.length c0_1) ∧ w'.cell? ⟨gb1018, 2, none⟩ = some (.slice A0_2 l0_2.length c0_2) ∧ w'.cell? ⟨gb1019, 0, none⟩ = some (.int .i64 a1_0) ∧ w'.cell? ⟨gb1019, 1, none⟩ = some (.int .i64 a1_1) ∧ w'.cell? ⟨gb1019, 2, none⟩ = some (.string a1_2) ∧ w'.cell? ⟨gb1019, 3, none⟩ = some (.string a1_3)) (ds := []) #[false, false, false, false, false, false, false, false, false] (by kernel_rfl) rfl rfl ⟨(blk_cell BK1018.out 0).trans rfl, (blk_cell BK1018.out 1).trans rfl, (blk_cell BK1018.out 2).trans rfl, (blk_cell BK1019.out 0).trans rfl, (blk_cell BK1019.out 1).trans rfl, (blk_cell BK1019.out 2).trans rfl, (blk_cell BK1019.out 3).trans rfl⟩ (fun hHeld => ?_); refine with_tabW spec_unDo.tab1 spec_unDo.bits1 (fun HT_ HW_ => ?_)
   generalize w9.drew = w10 at BK1018 BK1019 BK1020 HB hHeld ⊢
   refine take_ (i := 0) (N := some 9) (v := ?_) (a' := ?_) #[true, false, false, false, false, false, false, false, false] rfl rfl (take_ofW HT_.out HW_.out (by kernel_rfl)) (fun _ _ _ h => h) (Or.inl ⟨by rfl, ?_⟩) hHeld ?_ ?_
   rotate_left
   ·rintro w' ⟨s0, s1, s2, s3, s4, s5, s6⟩
    go_simp
    with_reducible rfl
   rotate_left
   ·simp only [Act.put, sA_, sB_, sC_, i64_w, i32_w]
    rfl
   refine take_ (i := 2) (N := some 11) (v := ?_) (a' := ?_) #[true, false, true, false, false, false, false, false, false] rfl rfl (take_ofW HT_.out HW_.out (by kernel_rfl)) (fun _ _ _ h => h) (Or.inl ⟨by rfl, ?_⟩) hHeld ?_ ?_
   rotate_left
   ·rintro w' ⟨s0, s1, s2, s3, s4, s5, s6⟩
    go_simp
    with_reducible rfl
   rotate_left
   ·simp only [Act.put, sA_, sB_, sC_, i64_w, i32_w]
    rfl
   refine one_ (i := 1) (N := some 10) #[true, true, true, false, false, false, false, false, false] rfl rfl (one_of HT_.out (by kernel_rfl)) (by decide) (fun K hK => ?_)
   refine goes_ Try.func67 (by kernel_rfl) rfl #[.agg #[.slice A0_0 l0_0.length c0_0, .slice A0_1 l0_1.length c0_1, .slice A0_2 l0_2.length c0_2]] (by rfl) rfl rfl args_ ?_
   with_reducible refine (spec_unNow.calls k _ _ l0_0 _ _ l0_1 _ _ l0_2 t1021 _ ?side1 ?side2 ?side3 ?side4 ?side5 ?side6 A3.out).mono ?_
   (case side1 => exact cb_ HR0_0 HB)
   (case side2 => exact HC0_0.out)
   (case side3 => exact cb_ HR0_1 HB)
   (case side4 => exact HC0_1.out)
   (case side5 => exact cb_ HR0_2 HB)
   (case side6 => exact HC0_2.out)
   rintro e w11 ⟨v1022, rfl, ho0, hb⟩
   refine ⟨_, rfl, ?_⟩
   have n0_ := Aside0.mk (Kd.R_lower ho0 (below_size (bb3_ HB GE1018 GE1019 GE1020)))
   have n1_ := Aside0.mk (lb_ BK1018 hb)
   have n2_ := Aside0.mk (lb_ BK1019 hb)
   have n3_ := Aside0.mk (lb_ BK1020 hb)
   have n4_ := Aside0.mk (below_step (bb3_ HB GE1018 GE1019 GE1020) hb)
   clear BK1018
   clear BK1019
   clear BK1020
   clear HB
   have HO1023 := n0_
   have BK1018 := n1_
   have BK1019 := n2_
   have BK1020 := n3_
   have HB := n4_
   clear n0_ n1_ n2_ n3_ n4_
   (try clear hb)
   (try clear hb2)
   (try clear hk)
   (try clear hi)
   (try clear ho0)
   obtain ⟨Ao12, co12, eo12⟩ := Kd.R_slice HO1023.out
   (first | subst eo12 | (injection eo12 with f1_ f2_ f3_; have f4_ := f1_.symm; have f5_ := f3_.symm; clear f1_ f2_ f3_; subst f4_; subst f5_))
   refine hK.out _ _ ⟨(blk_cell BK1018.out 0).trans rfl, (blk_cell BK1018.out 1).trans rfl, (blk_cell BK1018.out 2).trans rfl, (blk_cell BK1019.out 0).trans rfl, (blk_cell BK1019.out 1).trans rfl, (blk_cell BK1019.out 2).trans rfl, (blk_cell BK1019.out 3).trans rfl⟩ (fun hHeld => ?_)
   clear hK K
   refine norm_ (a' := ?_) ?_ ?_
   rotate_left
   ·show Act.put _ (some 10) _ = _
    simp only [Act.put, sA_, sB_, sC_, i64_w, i32_w]
    rfl
   refine one_ (i := 3) (N := some 12) #[true, true, true, true, false, false, false, false, false] rfl rfl (one_of HT_.out (by kernel_rfl)) (by decide) (fun K hK => ?_)
   refine goes_ Try.func84 (by kernel_rfl) rfl #[.slice Ao12 t1021.length co12, .agg #[.int .i64 a1_0, .int .i64 a1_1, .string a1_2, .string a1_3]] (by rfl) rfl rfl args_ ?_
   with_reducible refine (spec_unMake.calls k _ _ t1021 a1_0 a1_1 a1_2 a1_3 t1024 true _ ?side1 ?side2 A4.out).mono ?_
   (case side1 => exact cr_ HO1023)
   (case side2 => exact (Kd.R_reads' HO1023.out).2.1)
   rintro e w13 ⟨v1025, rfl, ho0, hb⟩
   refine ⟨_, rfl, ?_⟩
   have n0_ := Aside0.mk (Kd.R_elder' (ra_ HO1023) (Kd.R_base ho0) hb)
   have n1_ := Aside0.mk (Kd.R_lower (Kd.R_new' ho0 (Kd.R_lt (ra_ HO1023))) (below_size (bb3_ HB GE1018 GE1019 GE1020)))
   have n2_ := Aside0.mk (lb_ BK1018 hb)
   have n3_ := Aside0.mk (lb_ BK1019 hb)
   have n4_ := Aside0.mk (lb_ BK1020 hb)
   have n5_ := Aside0.mk (below_step (bb3_ HB GE1018 GE1019 GE1020) hb)
   clear HO1023
   clear BK1018
   clear BK1019
   clear BK1020
   clear HB
   have HO1023 := n0_
   have HO1026 := n1_
   have BK1018 := n2_
   have BK1019 := n3_
   have BK1020 := n4_
   have HB := n5_
   clear n0_ n1_ n2_ n3_ n4_ n5_
   (try clear hb)
   (try clear hb2)
   (try clear hk)
   (try clear hi)
   (try clear ho0)
   refine hK.out _ _ ⟨(blk_cell BK1018.out 0).trans rfl, (blk_cell BK1018.out 1).trans rfl, (blk_cell BK1018.out 2).trans rfl, (blk_cell BK1019.out 0).trans rfl, (blk_cell BK1019.out 1).trans rfl, (blk_cell BK1019.out 2).trans rfl, (blk_cell BK1019.out 3).trans rfl⟩ (fun hHeld => ?_)
   clear hK K
   refine norm_ (a' := ?_) ?_ ?_
   rotate_left
   ·show Act.put _ (some 12) _ = _
    simp only [Act.put, sA_, sB_, sC_, i64_w, i32_w]
    rfl
   refine pu_ (i := 4) (N := some 8) (v := ?_) (a' := ?_) #[true, true, true, true, true, false, false, false, false] rfl rfl (Or.inl ⟨by rfl, ?_⟩) ?_ ?_
   rotate_left
   ·intro w'
    go_simp
    with_reducible rfl
   rotate_left
   ·simp only [Act.put, sA_, sB_, sC_, i64_w, i32_w]
    rfl
   refine pu_ (i := 5) (N := some 13) (v := ?_) (a' := ?_) #[true, true, true, true, true, true, false, false, false] rfl rfl (Or.inl ⟨by rfl, ?_⟩) ?_ ?_
   rotate_left
   ·intro w'
    go_simp
    with_reducible rfl
   rotate_left
   ·simp only [Act.put, sA_, sB_, sC_, i64_w, i32_w]
    rfl
   refine pu_ (i := 6) (N := some 14) (v := ?_) (a' := ?_) #[true, true, true, true, true, true, true, false, false] rfl rfl (Or.inl ⟨by rfl, ?_⟩) ?_ ?_
   rotate_left
   ·intro w'
    go_simp
    with_reducible rfl
   rotate_left
   ·simp only [Act.put, sA_, sB_, sC_, i64_w, i32_w]
    rfl
   refine pu_ (i := 7) (N := some 6) (v := ?_) (a' := ?_) #[true, true, true, true, true, true, true, true, false] rfl rfl (Or.inl ⟨by rfl, ?_⟩) ?_ ?_
   rotate_left
   ·intro w'
    go_simp
    with_reducible rfl
   rotate_left
   ·simp only [Act.put, sA_, sB_, sC_, i64_w, i32_w]
    rfl
   refine pu_ (i := 8) (N := some 7) (v := ?_) (a' := ?_) #[true, true, true, true, true, true, true, true, true] rfl rfl (Or.inl ⟨by rfl, ?_⟩) ?_ ?_
   rotate_left
   ·intro w'
    go_simp
    with_reducible rfl
   rotate_left
   ·simp only [Act.put, sA_, sB_, sC_, i64_w, i32_w]
    rfl
   refine done_ (done_of HT_.out (by kernel_rfl)) ?_
   have hnb14 := NB1018_1019.out
   have hnc14 := NB1019_1018.out
   have hnb15 := NB1018_1020.out
   have hnc15 := NB1020_1018.out
   have hcz16_0 := cz0_ BK1018
   have hcz16_1 := cz1_ BK1018
   have hcz16_2 := cz2_ BK1018
   have hfz16_0 := fz_ BK1018 0
   have hfz16_1 := fz_ BK1018 1
   have hfz16_2 := fz_ BK1018 2
   have hnb17 := NB1020_1019.out
   have hnc17 := NB1019_1020.out
   have hcz18_0 := cz0_ BK1020
   have hcz18_1 := cz1_ BK1020
   have hcz18_2 := cz2_ BK1020
   have hfz18_0 := fz_ BK1020 0
   have hfz18_1 := fz_ BK1020 1
   have hfz18_2 := fz_ BK1020 2
   try go_wp2
   refine bodyPost_ret (results_ct rfl _ _ gb1020 35 #[.slice none 0 0, .slice none 0 0, .slice none 0 0] (0, 0) _ rfl (by (with_reducible repeat (first | apply lN_ | apply lD_ | apply lA_)); refine blk_put (cs := #[.slice none 0 0, .slice none 0 0, .slice none 0 0]) ?_ 2 _ rfl; (with_reducible repeat (first | apply lN_ | apply lD_ | apply lA_)); refine blk_put (cs := #[.slice none 0 0, .slice none 0 0, .slice none 0 0]) ?_ 1 _ rfl; (with_reducible repeat (first | apply lN_ | apply lD_ | apply lA_)); refine blk_put (cs := #[.slice none 0 0, .slice none 0 0, .slice none 0 0]) ?_ 0 _ rfl; (with_reducible repeat (first | apply lN_ | apply lD_ | apply lA_)); exact BK1020.out) Try.underlying35 rfl (by kernel_rfl)) rfl ?_
   exact ⟨_, _, _, by first | rfl | (simp [errW_none, errW_some] <;> rfl) | (simp [*, errW_none, errW_some] <;> rfl), by first | exact Kd.R_nil _ _ _ _ _ | exact Kd.N_nil _ _ _ _ _ | exact Kd.V_nil _ _ _ _ _ | exact Kd.Q_nil _ _ _ _ _ | exact Kd.S_nil _ _ _ _ _, by first | exact Kd.R_nil _ _ _ _ _ | exact Kd.N_nil _ _ _ _ _ | exact Kd.V_nil _ _ _ _ _ | exact Kd.Q_nil _ _ _ _ _ | exact Kd.S_nil _ _ _ _ _, by first | exact Kd.R_nil _ _ _ _ _ | exact Kd.N_nil _ _ _ _ _ | exact Kd.V_nil _ _ _ _ _ | exact Kd.Q_nil _ _ _ _ _ | exact Kd.S_nil _ _ _ _ _, bb3_ HB GE1018 GE1019 GE1020⟩
  ·rw [if_neg c6] at H
   have c6b0 : ((l0_1.length : Int) == 30) = false := beq_eq_false_iff_ne.mpr c6
   have c6b1 : ((l0_1.length : Int) != 30) = true := bne_iff_ne.mpr c6
   obtain ⟨y1028, hy1028⟩ : ∃ y_ : List (S25), y_ = (([] : List (S25))) := ⟨_, rfl⟩
   replace H : (if y1028.length + l0_1.length < 2932031007402 then ((some (y1028 ++ l0_1 : List (S25))).bind fun y1031 => ((some (([(⟨a1_0, a1_1, a1_2, a1_3⟩ : S25)] : List (S25)) : List (S25))).bind fun y1034 => (if y1031.length + y1034.length < 2932031007402 then ((spec_unDesk.f l0_0 l0_1 l0_2 (y1031 ++ y1034) ([] : List (S25))).bind fun bt1040 => (some (bt1040.1, bt1040.2.1, bt1040.2.2, true))) else (none)))) else (none)) = some (r1, r2, r3, r4) := by first | (rw [hy1028]; with_reducible exact H) | (have H2_ := (Option.bind_some _ _).symm.trans H; rw [hy1028]; with_reducible exact H2_) | (have H2_ := (Option.bind_some _ _).symm.trans H; with_reducible exact H2_) | with_reducible exact H | (rw [hy1028]; exact H) | exact H
   have Ny1028 := Aside0.mk hy1028
   clear hy1028
   by_cases c19 : y1028.length + l0_1.length < 2932031007402
   ·rw [if_pos c19] at H
    have LMc19 := Aside0.mk c19
    clear c19
    obtain ⟨y1031, hy1031⟩ : ∃ y_ : List (S25), y_ = (y1028 ++ l0_1) := ⟨_, rfl⟩
    replace H : ((some (([(⟨a1_0, a1_1, a1_2, a1_3⟩ : S25)] : List (S25)) : List (S25))).bind fun y1034 => (if y1031.length + y1034.length < 2932031007402 then ((spec_unDesk.f l0_0 l0_1 l0_2 (y1031 ++ y1034) ([] : List (S25))).bind fun bt1040 => (some (bt1040.1, bt1040.2.1, bt1040.2.2, true))) else (none))) = some (r1, r2, r3, r4) := by first | (rw [hy1031]; with_reducible exact H) | (have H2_ := (Option.bind_some _ _).symm.trans H; rw [hy1031]; with_reducible exact H2_) | (have H2_ := (Option.bind_some _ _).symm.trans H; with_reducible exact H2_) | with_reducible exact H | (rw [hy1031]; exact H) | exact H
    have Ny1031 := Aside0.mk hy1031
    clear hy1031
    obtain ⟨y1034, hy1034⟩ : ∃ y_ : List (S25), y_ = (([(⟨a1_0, a1_1, a1_2, a1_3⟩ : S25)] : List (S25))) := ⟨_, rfl⟩
    replace H : (if y1031.length + y1034.length < 2932031007402 then ((spec_unDesk.f l0_0 l0_1 l0_2 (y1031 ++ y1034) ([] : List (S25))).bind fun bt1040 => (some (bt1040.1, bt1040.2.1, bt1040.2.2, true))) else (none)) = some (r1, r2, r3, r4) := by first | (rw [hy1034]; with_reducible exact H) | (have H2_ := (Option.bind_some _ _).symm.trans H; rw [hy1034]; with_reducible exact H2_) | (have H2_ := (Option.bind_some _ _).symm.trans H; with_reducible exact H2_) | with_reducible exact H | (rw [hy1034]; exact H) | exact H
    have Ny1034 := Aside0.mk hy1034
    clear hy1034
    by_cases c20 : y1031.length + y1034.length < 2932031007402
    ·rw [if_pos c20] at H
     have LMc20 := Aside0.mk c20
     clear c20
     obtain ⟨y1037, hy1037⟩ : ∃ y_ : List (S25), y_ = (y1031 ++ y1034) := ⟨_, rfl⟩
     replace H : ((spec_unDesk.f l0_0 l0_1 l0_2 y1037 ([] : List (S25))).bind fun bt1040 => (some (bt1040.1, bt1040.2.1, bt1040.2.2, true))) = some (r1, r2, r3, r4) := by first | (rw [hy1037]; with_reducible exact H) | (have H2_ := (Option.bind_some _ _).symm.trans H; rw [hy1037]; with_reducible exact H2_) | (have H2_ := (Option.bind_some _ _).symm.trans H; with_reducible exact H2_) | with_reducible exact H | (rw [hy1037]; exact H) | exact H
     have Ny1037 := Aside0.mk hy1037
     clear hy1037
     replace H := Option.bind_eq_some_iff.mp H
     obtain ⟨⟨t1040, t1043, t1046⟩, A210, H⟩ := H
     try dsimp only at H
     have A21 := Aside0.mk A210
     clear A210
     simp only [Option.some.injEq, Prod.mk.injEq] at H
     obtain ⟨rfl, rfl, rfl, rfl⟩ := H
     go_enter Try.func71, Try.ntmps71
     try go_wp2_with (first | ((with_reducible refine gate_dst (N := 2) rfl ?_); (try (refine gate_guard (by rfl) ?_; dsimp only)); refine box_event ?hg (N := 2) ?hd (cs := #[.slice A0_0 l0_0.length c0_0, .slice A0_1 l0_1.length c0_1, .slice A0_2 l0_2.length c0_2]) (t := 35) ?hr ?_; (case hd => rfl); (case hg => rfl); (case hr => first | (go_simp; done) | (go_simp; rfl)); intro gb1018 hg w22 hbox hb; have n0_ := Aside0.mk (bt_ HB hb); have n1_ := Aside0.mk (hbox); have n2_ := gz_ hg HB; have n3_ := gz_ hg HB; clear HB; have HB := n0_; have BK1018 := n1_; have GW1018 := n2_; have GE1018 := n3_; clear n0_ n1_ n2_ n3_; clear hb hbox hg) | ((with_reducible refine gate_dst (N := 3) rfl ?_); (try (refine gate_guard (by rfl) ?_; dsimp only)); refine box_event ?hg (N := 3) ?hd (cs := #[.int .i64 a1_0, .int .i64 a1_1, .string a1_2, .string a1_3]) (t := 25) ?hr ?_; (case hd => rfl); (case hg => rfl); (case hr => first | (go_simp; done) | (go_simp; rfl)); intro gb1019 hg w23 hbox hb; have n0_ := Aside0.mk (lb_ BK1018 hb); have n1_ := Aside0.mk (below_step (bb1_ HB GE1018) hb); have n2_ := Aside0.mk (hbox); have n3_ := gy_ hg (bb1_ HB GE1018); have n4_ := gy_ hg (bb1_ HB GE1018); have n5_ := nl_ hg BK1018; have n6_ := ng_ hg BK1018; clear BK1018; clear HB; have BK1018 := n0_; have HB := n1_; have BK1019 := n2_; have GW1019 := n3_; have GE1019 := n4_; have NB1018_1019 := n5_; have NB1019_1018 := n6_; clear n0_ n1_ n2_ n3_ n4_ n5_ n6_; clear hb hbox hg) | ((with_reducible refine gate_dst (N := 4) rfl ?_); (try (refine gate_guard (by rfl) ?_; dsimp only)); refine box_event ?hg (N := 4) ?hd (cs := #[.slice none 0 0, .slice none 0 0, .slice none 0 0]) (t := 35) ?hr ?_; (case hd => rfl); (case hg => rfl); (case hr => first | (go_simp; done) | (go_simp; rfl)); intro gb1020 hg w24 hbox hb; have n0_ := Aside0.mk (lb_ BK1018 hb); have n1_ := Aside0.mk (lb_ BK1019 hb); have n2_ := Aside0.mk (below_step (bb2_ HB GE1018 GE1019) hb); have n3_ := Aside0.mk (hbox); have n4_ := gy_ hg (bb2_ HB GE1018 GE1019); have n5_ := gy_ hg (bb2_ HB GE1018 GE1019); have n6_ := nl_ hg BK1018; have n7_ := ng_ hg BK1018; have n8_ := nl_ hg BK1019; have n9_ := ng_ hg BK1019; clear BK1018; clear BK1019; clear HB; have BK1018 := n0_; have BK1019 := n1_; have HB := n2_; have BK1020 := n3_; have GW1020 := n4_; have GE1020 := n5_; have NB1018_1020 := n6_; have NB1020_1018 := n7_; have NB1019_1020 := n8_; have NB1020_1019 := n9_; clear n0_ n1_ n2_ n3_ n4_ n5_ n6_ n7_ n8_ n9_; clear hb hbox hg))
     have n0_ := Aside0.mk (blk_drew BK1018.out)
     have n1_ := Aside0.mk (blk_drew BK1019.out)
     have n2_ := Aside0.mk (blk_drew BK1020.out)
     have n3_ := Aside0.mk (below_drew1 HB.out)
     clear BK1018
     clear BK1019
     clear BK1020
     clear HB
     have BK1018 := n0_
     have BK1019 := n1_
     have BK1020 := n2_
     have HB := n3_
     clear n0_ n1_ n2_ n3_
     refine start_ (n := 9) (S := fun w' => w'.cell? ⟨gb1018, 0, none⟩ = some (.slice A0_0 l0_0.length c0_0) ∧ w'.cell? ⟨gb1018, 1, none⟩ = some (.slice A0_1 l0_1.length c0_1) ∧ w'.cell? ⟨gb1018, 2, none⟩ = some (.slice A0_2 l0_2.length c0_2) ∧ w'.cell? ⟨gb1019, 0, none⟩ = some (.int .i64 a1_0) ∧ w'.cell? ⟨gb1019, 1, none⟩ = some (.int .i64 a1_1) ∧ w'.cell? ⟨gb1019, 2, none⟩ = some (.string a1_2) ∧ w'.cell? ⟨gb1019, 3, none⟩ = some (.string a1_3)) (ds := []) #[false, false, false, false, false, false, false, false, false] (by kernel_rfl) rfl rfl ⟨(blk_cell BK1018.out 0).trans rfl, (blk_cell BK1018.out 1).trans rfl, (blk_cell BK1018.out 2).trans rfl, (blk_cell BK1019.out 0).trans rfl, (blk_cell BK1019.out 1).trans rfl, (blk_cell BK1019.out 2).trans rfl, (blk_cell BK1019.out 3).trans rfl⟩ (fun hHeld => ?_); refine with_tabW spec_unDo.tab1 spec_unDo.bits1 (fun HT_ HW_ => ?_)
     generalize w24.drew = w25 at BK1018 BK1019 BK1020 HB hHeld ⊢
     refine take_ (i := 0) (N := some 9) (v := ?_) (a' := ?_) #[true, false, false, false, false, false, false, false, false] rfl rfl (take_ofW HT_.out HW_.out (by kernel_rfl)) (fun _ _ _ h => h) (Or.inl ⟨by rfl, ?_⟩) hHeld ?_ ?_
     rotate_left
     ·rintro w' ⟨s0, s1, s2, s3, s4, s5, s6⟩
      go_simp
      with_reducible rfl
     rotate_left
     ·simp only [Act.put, sA_, sB_, sC_, i64_w, i32_w]
      rfl
     refine take_ (i := 2) (N := some 11) (v := ?_) (a' := ?_) #[true, false, true, false, false, false, false, false, false] rfl rfl (take_ofW HT_.out HW_.out (by kernel_rfl)) (fun _ _ _ h => h) (Or.inl ⟨by rfl, ?_⟩) hHeld ?_ ?_
     rotate_left
     ·rintro w' ⟨s0, s1, s2, s3, s4, s5, s6⟩
      go_simp
      with_reducible rfl
     rotate_left
     ·simp only [Act.put, sA_, sB_, sC_, i64_w, i32_w]
      rfl
     refine one_ (i := 1) (N := some 10) #[true, true, true, false, false, false, false, false, false] rfl rfl (one_of HT_.out (by kernel_rfl)) (by decide) (fun K hK => ?_)
     refine goes_ Try.func67 (by kernel_rfl) rfl #[.agg #[.slice A0_0 l0_0.length c0_0, .slice A0_1 l0_1.length c0_1, .slice A0_2 l0_2.length c0_2]] (by rfl) rfl rfl args_ ?_
     with_reducible refine (spec_unNow.calls k _ _ l0_0 _ _ l0_1 _ _ l0_2 t1021 _ ?side1 ?side2 ?side3 ?side4 ?side5 ?side6 A3.out).mono ?_
     (case side1 => exact cb_ HR0_0 HB)
     (case side2 => exact HC0_0.out)
     (case side3 => exact cb_ HR0_1 HB)
     (case side4 => exact HC0_1.out)
     (case side5 => exact cb_ HR0_2 HB)
     (case side6 => exact HC0_2.out)
     rintro e w26 ⟨v1022, rfl, ho0, hb⟩
     refine ⟨_, rfl, ?_⟩
     have n0_ := Aside0.mk (Kd.R_lower ho0 (below_size (bb3_ HB GE1018 GE1019 GE1020)))
     have n1_ := Aside0.mk (lb_ BK1018 hb)
     have n2_ := Aside0.mk (lb_ BK1019 hb)
     have n3_ := Aside0.mk (lb_ BK1020 hb)
     have n4_ := Aside0.mk (below_step (bb3_ HB GE1018 GE1019 GE1020) hb)
     clear BK1018
     clear BK1019
     clear BK1020
     clear HB
     have HO1023 := n0_
     have BK1018 := n1_
     have BK1019 := n2_
     have BK1020 := n3_
     have HB := n4_
     clear n0_ n1_ n2_ n3_ n4_
     (try clear hb)
     (try clear hb2)
     (try clear hk)
     (try clear hi)
     (try clear ho0)
     obtain ⟨Ao27, co27, eo27⟩ := Kd.R_slice HO1023.out
     (first | subst eo27 | (injection eo27 with f1_ f2_ f3_; have f4_ := f1_.symm; have f5_ := f3_.symm; clear f1_ f2_ f3_; subst f4_; subst f5_))
     refine hK.out _ _ ⟨(blk_cell BK1018.out 0).trans rfl, (blk_cell BK1018.out 1).trans rfl, (blk_cell BK1018.out 2).trans rfl, (blk_cell BK1019.out 0).trans rfl, (blk_cell BK1019.out 1).trans rfl, (blk_cell BK1019.out 2).trans rfl, (blk_cell BK1019.out 3).trans rfl⟩ (fun hHeld => ?_)
     clear hK K
     refine norm_ (a' := ?_) ?_ ?_
     rotate_left
     ·show Act.put _ (some 10) _ = _
      simp only [Act.put, sA_, sB_, sC_, i64_w, i32_w]
      rfl
     refine one_ (i := 3) (N := some 12) #[true, true, true, true, false, false, false, false, false] rfl rfl (one_of HT_.out (by kernel_rfl)) (by decide) (fun K hK => ?_)
     refine goes_ Try.func84 (by kernel_rfl) rfl #[.slice Ao27 t1021.length co27, .agg #[.int .i64 a1_0, .int .i64 a1_1, .string a1_2, .string a1_3]] (by rfl) rfl rfl args_ ?_
     with_reducible refine (spec_unMake.calls k _ _ t1021 a1_0 a1_1 a1_2 a1_3 t1024 true _ ?side1 ?side2 A4.out).mono ?_
     (case side1 => exact cr_ HO1023)
     (case side2 => exact (Kd.R_reads' HO1023.out).2.1)
     rintro e w28 ⟨v1025, rfl, ho0, hb⟩
     refine ⟨_, rfl, ?_⟩
     have n0_ := Aside0.mk (Kd.R_elder' (ra_ HO1023) (Kd.R_base ho0) hb)
     have n1_ := Aside0.mk (Kd.R_lower (Kd.R_new' ho0 (Kd.R_lt (ra_ HO1023))) (below_size (bb3_ HB GE1018 GE1019 GE1020)))
     have n2_ := Aside0.mk (lb_ BK1018 hb)
     have n3_ := Aside0.mk (lb_ BK1019 hb)
     have n4_ := Aside0.mk (lb_ BK1020 hb)
     have n5_ := Aside0.mk (below_step (bb3_ HB GE1018 GE1019 GE1020) hb)
     clear HO1023
     clear BK1018
     clear BK1019
     clear BK1020
     clear HB
     have HO1023 := n0_
     have HO1026 := n1_
     have BK1018 := n2_
     have BK1019 := n3_
     have BK1020 := n4_
     have HB := n5_
     clear n0_ n1_ n2_ n3_ n4_ n5_
     (try clear hb)
     (try clear hb2)
     (try clear hk)
     (try clear hi)
     (try clear ho0)
     refine hK.out _ _ ⟨(blk_cell BK1018.out 0).trans rfl, (blk_cell BK1018.out 1).trans rfl, (blk_cell BK1018.out 2).trans rfl, (blk_cell BK1019.out 0).trans rfl, (blk_cell BK1019.out 1).trans rfl, (blk_cell BK1019.out 2).trans rfl, (blk_cell BK1019.out 3).trans rfl⟩ (fun hHeld => ?_)
     clear hK K
     refine norm_ (a' := ?_) ?_ ?_
     rotate_left
     ·show Act.put _ (some 12) _ = _
      simp only [Act.put, sA_, sB_, sC_, i64_w, i32_w]
      rfl
     refine pu_ (i := 4) (N := some 8) (v := ?_) (a' := ?_) #[true, true, true, true, true, false, false, false, false] rfl rfl (Or.inl ⟨by rfl, ?_⟩) ?_ ?_
     rotate_left
     ·intro w'
      go_simp
      with_reducible rfl
     rotate_left
     ·simp only [Act.put, sA_, sB_, sC_, i64_w, i32_w]
      rfl
     refine pu_ (i := 5) (N := some 13) (v := ?_) (a' := ?_) #[true, true, true, true, true, true, false, false, false] rfl rfl (Or.inl ⟨by rfl, ?_⟩) ?_ ?_
     rotate_left
     ·intro w'
      go_simp
      with_reducible rfl
     rotate_left
     ·simp only [Act.put, sA_, sB_, sC_, i64_w, i32_w]
      rfl
     refine pu_ (i := 6) (N := some 14) (v := ?_) (a' := ?_) #[true, true, true, true, true, true, true, false, false] rfl rfl (Or.inl ⟨by rfl, ?_⟩) ?_ ?_
     rotate_left
     ·intro w'
      go_simp
      with_reducible rfl
     rotate_left
     ·simp only [Act.put, sA_, sB_, sC_, i64_w, i32_w]
      rfl
     refine pu_ (i := 7) (N := some 6) (v := ?_) (a' := ?_) #[true, true, true, true, true, true, true, true, false] rfl rfl (Or.inl ⟨by rfl, ?_⟩) ?_ ?_
     rotate_left
     ·intro w'
      go_simp
      with_reducible rfl
     rotate_left
     ·simp only [Act.put, sA_, sB_, sC_, i64_w, i32_w]
      rfl
     refine pu_ (i := 8) (N := some 7) (v := ?_) (a' := ?_) #[true, true, true, true, true, true, true, true, true] rfl rfl (Or.inl ⟨by rfl, ?_⟩) ?_ ?_
     rotate_left
     ·intro w'
      go_simp
      with_reducible rfl
     rotate_left
     ·simp only [Act.put, sA_, sB_, sC_, i64_w, i32_w]
      rfl
     refine done_ (done_of HT_.out (by kernel_rfl)) ?_
     have hnb29 := NB1018_1019.out
     have hnc29 := NB1019_1018.out
     have hnb30 := NB1018_1020.out
     have hnc30 := NB1020_1018.out
     have hcz31_0 := cz0_ BK1018
     have hcz31_1 := cz1_ BK1018
     have hcz31_2 := cz2_ BK1018
     have hfz31_0 := fz_ BK1018 0
     have hfz31_1 := fz_ BK1018 1
     have hfz31_2 := fz_ BK1018 2
     try go_wp2
     have n0_ := Aside0.mk (Kd.R_drew HO1023.out)
     have n1_ := Aside0.mk (Kd.R_drew HO1026.out)
     have n2_ := Aside0.mk (blk_drew BK1018.out)
     have n3_ := Aside0.mk (blk_drew BK1019.out)
     have n4_ := Aside0.mk (blk_drew BK1020.out)
     have n5_ := Aside0.mk (below_drew1 HB.out)
     clear HO1023
     clear HO1026
     clear BK1018
     clear BK1019
     clear BK1020
     clear HB
     have HO1023 := n0_
     have HO1026 := n1_
     have BK1018 := n2_
     have BK1019 := n3_
     have BK1020 := n4_
     have HB := n5_
     clear n0_ n1_ n2_ n3_ n4_ n5_
     refine start_ (n := 11) (S := fun w' => w'.cell? ⟨gb1018, 0, none⟩ = some (.slice A0_0 l0_0.length c0_0) ∧ w'.cell? ⟨gb1018, 1, none⟩ = some (.slice A0_1 l0_1.length c0_1) ∧ w'.cell? ⟨gb1018, 2, none⟩ = some (.slice A0_2 l0_2.length c0_2) ∧ w'.cell? ⟨gb1019, 0, none⟩ = some (.int .i64 a1_0) ∧ w'.cell? ⟨gb1019, 1, none⟩ = some (.int .i64 a1_1) ∧ w'.cell? ⟨gb1019, 2, none⟩ = some (.string a1_2) ∧ w'.cell? ⟨gb1019, 3, none⟩ = some (.string a1_3)) (ds := []) #[false, false, false, false, false, false, false, false, false, false, false] (by kernel_rfl) rfl rfl ⟨(blk_cell BK1018.out 0).trans rfl, (blk_cell BK1018.out 1).trans rfl, (blk_cell BK1018.out 2).trans rfl, (blk_cell BK1019.out 0).trans rfl, (blk_cell BK1019.out 1).trans rfl, (blk_cell BK1019.out 2).trans rfl, (blk_cell BK1019.out 3).trans rfl⟩ (fun hHeld => ?_); refine with_tabW spec_unDo.tab4 spec_unDo.bits4 (fun HT_ HW_ => ?_)
     generalize w28.drew = w32 at HO1023 HO1026 BK1018 BK1019 BK1020 HB hHeld ⊢
     refine pu_ (i := 2) (N := some 26) (v := ?_) (a' := ?_) #[false, false, true, false, false, false, false, false, false, false, false] rfl rfl (Or.inl ⟨by rfl, ?_⟩) ?_ ?_
     rotate_left
     ·intro w'
      go_simp
      with_reducible rfl
     rotate_left
     ·simp only [Act.put, sA_, sB_, sC_, i64_w, i32_w]
      rfl
     refine take_ (i := 0) (N := some 24) (v := ?_) (a' := ?_) #[true, false, true, false, false, false, false, false, false, false, false] rfl rfl (take_ofW HT_.out HW_.out (by kernel_rfl)) (fun _ _ _ h => h) (Or.inl ⟨by rfl, ?_⟩) hHeld ?_ ?_
     rotate_left
     ·rintro w' ⟨s0, s1, s2, s3, s4, s5, s6⟩
      go_simp
      with_reducible rfl
     rotate_left
     ·simp only [Act.put, sA_, sB_, sC_, i64_w, i32_w]
      rfl
     refine take_ (i := 3) (N := some 27) (v := ?_) (a' := ?_) #[true, false, true, true, false, false, false, false, false, false, false] rfl rfl (take_ofW HT_.out HW_.out (by kernel_rfl)) (fun _ _ _ h => h) (Or.inl ⟨by rfl, ?_⟩) hHeld ?_ ?_
     rotate_left
     ·rintro w' ⟨s0, s1, s2, s3, s4, s5, s6⟩
      go_simp
      with_reducible rfl
     rotate_left
     ·simp only [Act.put, sA_, sB_, sC_, i64_w, i32_w]
      rfl
     refine take_ (i := 5) (N := some 29) (v := ?_) (a' := ?_) #[true, false, true, true, false, true, false, false, false, false, false] rfl rfl (take_ofW HT_.out HW_.out (by kernel_rfl)) (fun _ _ _ h => h) (Or.inl ⟨by rfl, ?_⟩) hHeld ?_ ?_
     rotate_left
     ·rintro w' ⟨s0, s1, s2, s3, s4, s5, s6⟩
      go_simp
      with_reducible rfl
     rotate_left
     ·simp only [Act.put, sA_, sB_, sC_, i64_w, i32_w]
      rfl
     refine join_ (σ := Value × Value × Value) 4 #[true, true, true, true, true, true, true, false, false, false, false] (fun s_ => [(25, s_.1), (28, s_.2.1), (30, s_.2.2)]) (fun s_ w' => (w'.cell? ⟨gb1018, 0, none⟩ = some (.slice A0_0 l0_0.length c0_0) ∧ w'.cell? ⟨gb1018, 1, none⟩ = some (.slice A0_1 l0_1.length c0_1) ∧ w'.cell? ⟨gb1018, 2, none⟩ = some (.slice A0_2 l0_2.length c0_2) ∧ w'.cell? ⟨gb1019, 0, none⟩ = some (.int .i64 a1_0) ∧ w'.cell? ⟨gb1019, 1, none⟩ = some (.int .i64 a1_1) ∧ w'.cell? ⟨gb1019, 2, none⟩ = some (.string a1_2) ∧ w'.cell? ⟨gb1019, 3, none⟩ = some (.string a1_3)) ∧ (Kd.R Kd.string 9 w' w.heap.size (fun k_ => some k_ ≠ (v1025 : Value).ownBlock) (.slice Ao27 t1021.length co27) t1021) ∧ (Kd.R Kd.string 9 w' w.heap.size (fun k_ => some k_ ≠ (.slice Ao27 t1021.length co27 : Value).ownBlock) v1025 t1024) ∧ (Kd.R k25 25 w' w.heap.size (fun k_ => some k_ ≠ (s_.2.2 : Value).ownBlock ∧ k_ ≠ gb1019) s_.2.1 y1031) ∧ (Kd.R k25 25 w' w.heap.size (fun k_ => some k_ ≠ (s_.2.1 : Value).ownBlock ∧ k_ ≠ gb1019) s_.2.2 y1034) ∧ (w'.heap[gb1018]? = some (.cells #[.slice A0_0 l0_0.length c0_0, .slice A0_1 l0_1.length c0_1, .slice A0_2 l0_2.length c0_2] 35 (0, 0))) ∧ (w'.heap[gb1019]? = some (.cells #[.int .i64 a1_0, .int .i64 a1_1, .string a1_2, .string a1_3] 25 (0, 0))) ∧ (w'.heap[gb1020]? = some (.cells #[.slice none 0 0, .slice none 0 0, .slice none 0 0] 35 (0, 0))) ∧ (Below w.heap.size w w')) ?_ ?_
     rotate_left
     ·intro hCont
      refine two_ (i := 1) (j := 6) (Ni := some 25) (Nj := some 30) #[true, true, true, true, false, true, false, false, false, false, false] #[true, false, true, true, false, true, true, false, false, false, false] rfl rfl rfl rfl (two_of HT_.out (by kernel_rfl)) (by decide) (by decide) (fun K hK => ?_) (fun K hK => ?_)
      ·skip
       refine Kd.R_lit_step k25 _ 25 ?hg (N := 25) ?hd (xs := ([] : List (S25))) (inner := []) (ok := fun _ => True) (okp := fun _ => True) ?hr ?hp (fun _ hk => hk) trivial (Below.refl _ _) (Nat.le_refl _) (by simp) ?_; (case hd => rfl); (case hg => rfl); (case hr => first | (go_simp; done) | (go_simp; rfl)); (case hp => exact (Reps.none _ _))
       intro v1029 w33 ho34 hb hg_ hnew_
       clear hg_ hnew_
       (first | rw [← Ny1028.out] at ho34 | (simp only [Int.reduceToNat] at ho34; rw [← Ny1028.out] at ho34))
       have n0_ := Aside0.mk (Kd.R_below (ra_ HO1023) hb)
       have n1_ := Aside0.mk (Kd.R_below (ra_ HO1026) hb)
       have n2_ := Aside0.mk (Kd.R_lower (Kd.R_newB ho34 (g := gb1019) (o := .cells #[.int .i64 a1_0, .int .i64 a1_1, .string a1_2, .string a1_3] 25 (0, 0)) (la_ BK1019)) (below_size (bb3_ HB GE1018 GE1019 GE1020)))
       have n3_ := Aside0.mk (lb_ BK1018 hb)
       have n4_ := Aside0.mk (lb_ BK1019 hb)
       have n5_ := Aside0.mk (lb_ BK1020 hb)
       have n6_ := Aside0.mk (below_step (bb3_ HB GE1018 GE1019 GE1020) hb)
       clear HO1023
       clear HO1026
       clear BK1018
       clear BK1019
       clear BK1020
       clear HB
       have HO1023 := n0_
       have HO1026 := n1_
       have HO1030 := n2_
       have BK1018 := n3_
       have BK1019 := n4_
       have BK1020 := n5_
       have HB := n6_
       clear n0_ n1_ n2_ n3_ n4_ n5_ n6_
       clear hb ho34
       refine hK.out _ _ ⟨(blk_cell BK1018.out 0).trans rfl, (blk_cell BK1018.out 1).trans rfl, (blk_cell BK1018.out 2).trans rfl, (blk_cell BK1019.out 0).trans rfl, (blk_cell BK1019.out 1).trans rfl, (blk_cell BK1019.out 2).trans rfl, (blk_cell BK1019.out 3).trans rfl⟩ (fun hHeld => ?_)
       clear hK K
       refine norm_ (a' := ?_) ?_ ?_
       rotate_left
       ·show Act.put _ (some 25) _ = _
        simp only [Act.put, sA_, sB_, sC_, i64_w, i32_w]
        rfl
       refine two_ (i := 4) (j := 6) (Ni := some 28) (Nj := some 30) #[true, true, true, true, true, true, false, false, false, false, false] #[true, true, true, true, false, true, true, false, false, false, false] rfl rfl rfl rfl (two_of HT_.out (by kernel_rfl)) (by decide) (by decide) (fun K hK => ?_) (fun K hK => ?_)
       ·skip
        refine Kd.R_append_rows_step k25 (w0 := w) w.heap.size (by rfl) (.tmp 25) (.tmp 27) 33 25 (.agg #[(.int .i64 0), (.int .i64 0), (.string ⟨#[]⟩), (.string ⟨#[]⟩)]) 48 rfl Try.underlying33 info25 rfl (by decide) (by omega) v1029 y1028 l0_1 _ _ _ (fun k_ => k_ ≠ gb1019) (fun _ => False) rfl rfl ?aO ?aR (fun _ _ h => h) (fun _ h => h.elim) ?aF ?aB ?aS ?aL ?_
        (case aR => exact cb_ HR0_1 HB)
        (case aB => exact (bb3_ HB GE1018 GE1019 GE1020))
        (case aF => exact (fun k_ hk => Kd.freshB (g := gb1019) (o := .cells #[.int .i64 a1_0, .int .i64 a1_1, .string a1_2, .string a1_3] 25 (0, 0)) (la_ BK1019) k_ hk))
        (case aO => exact (by (with_reducible repeat (first | apply rA_ | apply rN_ | apply rD_)); exact Kd.R_mono HO1030.out (fun _ hk => hk.2)))
        (case aS => exact (below_size (bb3_ HB GE1018 GE1019 GE1020)))
        (case aL => have := LMc19.out; omega)
        intro v1032 w35 ho hb hg hat
        rw [← Ny1031.out] at ho
        have n0_ := Aside0.mk (blk_grown (g := gb1018) (o := .cells #[.slice A0_0 l0_0.length c0_0, .slice A0_1 l0_1.length c0_1, .slice A0_2 l0_2.length c0_2] 35 (0, 0)) (la_ BK1018) hg (Kd.R_ne HO1030.out BK1018.out (by decide)))
        have n1_ := Aside0.mk (blk_grown (g := gb1019) (o := .cells #[.int .i64 a1_0, .int .i64 a1_1, .string a1_2, .string a1_3] 25 (0, 0)) (la_ BK1019) hg (Kd.R_away HO1030.out (fun _ hk => hk.2)))
        have n2_ := Aside0.mk (blk_grown (g := gb1020) (o := .cells #[.slice none 0 0, .slice none 0 0, .slice none 0 0] 35 (0, 0)) (la_ BK1020) hg (Kd.R_ne HO1030.out BK1020.out (by decide)))
        have n3_ := Aside0.mk (Kd.R_over' (ra_ HO1023) (Kd.R_typed (ra_ HO1030)) (by decide) hg)
        have n4_ := Aside0.mk (Kd.R_over' (ra_ HO1026) (Kd.R_typed (ra_ HO1030)) (by decide) hg)
        have n5_ := Aside0.mk (hb)
        have n6_ := Aside0.mk (ho)
        clear BK1018
        clear BK1019
        clear BK1020
        clear HO1023
        clear HO1026
        clear HB
        clear HO1030
        have BK1018 := n0_
        have BK1019 := n1_
        have BK1020 := n2_
        have HO1023 := n3_
        have HO1026 := n4_
        have HB := n5_
        have HO1033 := n6_
        clear n0_ n1_ n2_ n3_ n4_ n5_ n6_
        clear ho hb hg hat
        refine hK.out _ _ ⟨(blk_cell BK1018.out 0).trans rfl, (blk_cell BK1018.out 1).trans rfl, (blk_cell BK1018.out 2).trans rfl, (blk_cell BK1019.out 0).trans rfl, (blk_cell BK1019.out 1).trans rfl, (blk_cell BK1019.out 2).trans rfl, (blk_cell BK1019.out 3).trans rfl⟩ (fun hHeld => ?_)
        clear hK K
        refine norm_ (a' := ?_) ?_ ?_
        rotate_left
        ·show Act.put _ (some 28) _ = _
         simp only [Act.put, sA_, sB_, sC_, i64_w, i32_w]
         rfl
        refine one_ (i := 6) (N := some 30) #[true, true, true, true, true, true, true, false, false, false, false] rfl rfl (one_of HT_.out (by kernel_rfl)) (by decide) (fun K hK => ?_)
        refine Kd.R_lit_step k25 _ 25 ?hg (N := 30) ?hd (xs := ([(⟨a1_0, a1_1, a1_2, a1_3⟩ : S25)] : List (S25))) (inner := [.int .i64 a1_0, .int .i64 a1_1, .string a1_2, .string a1_3]) (ok := fun _ => True) (okp := fun _ => True) ?hr ?hp (fun _ hk => hk) trivial (Below.refl _ _) (Nat.le_refl _) (by simp) ?_; (case hd => rfl); (case hg => rfl); (case hr => first | (go_simp; done) | (go_simp; rfl)); (case hp => exact (Reps.c4 (show Kd.M k25 _ _ _ (⟨a1_0, a1_1, a1_2, a1_3⟩ : S25) [.int .i64 a1_0, .int .i64 a1_1, .string a1_2, .string a1_3] from (k25_mkM _ _ _ (⟨a1_0, a1_1, a1_2, a1_3⟩ : S25) )) (Reps.none _ _)))
        intro v1035 w36 ho37 hb hg_ hnew_
        clear hg_ hnew_
        (first | rw [← Ny1034.out] at ho37 | (simp only [Int.reduceToNat] at ho37; rw [← Ny1034.out] at ho37))
        have n0_ := Aside0.mk (Kd.R_below (ra_ HO1023) hb)
        have n1_ := Aside0.mk (Kd.R_below (ra_ HO1026) hb)
        have n2_ := Aside0.mk (Kd.R_elder' (ra_ HO1033) (Kd.R_base ho37) hb)
        have n3_ := Aside0.mk (Kd.R_lower (Kd.R_newB (Kd.R_new' ho37 (Kd.R_lt (ra_ HO1033))) (g := gb1019) (o := .cells #[.int .i64 a1_0, .int .i64 a1_1, .string a1_2, .string a1_3] 25 (0, 0)) (la_ BK1019)) (below_size (bb3_ HB GE1018 GE1019 GE1020)))
        have n4_ := Aside0.mk (lb_ BK1018 hb)
        have n5_ := Aside0.mk (lb_ BK1019 hb)
        have n6_ := Aside0.mk (lb_ BK1020 hb)
        have n7_ := Aside0.mk (below_step (bb3_ HB GE1018 GE1019 GE1020) hb)
        clear HO1023
        clear HO1026
        clear HO1033
        clear BK1018
        clear BK1019
        clear BK1020
        clear HB
        have HO1023 := n0_
        have HO1026 := n1_
        have HO1033 := n2_
        have HO1036 := n3_
        have BK1018 := n4_
        have BK1019 := n5_
        have BK1020 := n6_
        have HB := n7_
        clear n0_ n1_ n2_ n3_ n4_ n5_ n6_ n7_
        clear hb ho37
        refine hK.out _ _ ⟨(blk_cell BK1018.out 0).trans rfl, (blk_cell BK1018.out 1).trans rfl, (blk_cell BK1018.out 2).trans rfl, (blk_cell BK1019.out 0).trans rfl, (blk_cell BK1019.out 1).trans rfl, (blk_cell BK1019.out 2).trans rfl, (blk_cell BK1019.out 3).trans rfl⟩ (fun hHeld => ?_)
        clear hK K
        refine norm_ (a' := ?_) ?_ ?_
        rotate_left
        ·show Act.put _ (some 30) _ = _
         simp only [Act.put, sA_, sB_, sC_, i64_w, i32_w]
         rfl
        exact norm_ (by simp only [putAll, Act.put, List.setIfInBounds_toArray, List.set_cons_zero, List.set_cons_succ]) (hCont (v1029, v1032, v1035) _ ⟨hHeld, (by (with_reducible repeat (first | apply rA_ | apply rN_ | apply rD_)); exact Kd.R_mono HO1023.out (fun _ hk => hk.2)), (by (with_reducible repeat (first | apply rA_ | apply rN_ | apply rD_)); exact Kd.R_mono HO1026.out (fun _ hk => hk.2)), (by (with_reducible repeat (first | apply rA_ | apply rN_ | apply rD_)); exact Kd.R_mono HO1033.out (fun _ hk => ⟨hk.2, hk.1⟩)), (by (with_reducible repeat (first | apply rA_ | apply rN_ | apply rD_)); exact Kd.R_mono HO1036.out (fun _ hk => ⟨hk.1.2, hk.2⟩)), (la_ BK1018), (la_ BK1019), (la_ BK1020), (bb3_ HB GE1018 GE1019 GE1020)⟩)
       ·skip
        refine Kd.R_lit_step k25 _ 25 ?hg (N := 30) ?hd (xs := ([(⟨a1_0, a1_1, a1_2, a1_3⟩ : S25)] : List (S25))) (inner := [.int .i64 a1_0, .int .i64 a1_1, .string a1_2, .string a1_3]) (ok := fun _ => True) (okp := fun _ => True) ?hr ?hp (fun _ hk => hk) trivial (Below.refl _ _) (Nat.le_refl _) (by simp) ?_; (case hd => rfl); (case hg => rfl); (case hr => first | (go_simp; done) | (go_simp; rfl)); (case hp => exact (Reps.c4 (show Kd.M k25 _ _ _ (⟨a1_0, a1_1, a1_2, a1_3⟩ : S25) [.int .i64 a1_0, .int .i64 a1_1, .string a1_2, .string a1_3] from (k25_mkM _ _ _ (⟨a1_0, a1_1, a1_2, a1_3⟩ : S25) )) (Reps.none _ _)))
        intro v1035 w35 ho36 hb hg_ hnew_
        clear hg_ hnew_
        (first | rw [← Ny1034.out] at ho36 | (simp only [Int.reduceToNat] at ho36; rw [← Ny1034.out] at ho36))
        have n0_ := Aside0.mk (Kd.R_below (ra_ HO1023) hb)
        have n1_ := Aside0.mk (Kd.R_below (ra_ HO1026) hb)
        have n2_ := Aside0.mk (Kd.R_elder' (ra_ HO1030) (Kd.R_base ho36) hb)
        have n3_ := Aside0.mk (Kd.R_lower (Kd.R_newB (Kd.R_new' ho36 (Kd.R_lt (ra_ HO1030))) (g := gb1019) (o := .cells #[.int .i64 a1_0, .int .i64 a1_1, .string a1_2, .string a1_3] 25 (0, 0)) (la_ BK1019)) (below_size (bb3_ HB GE1018 GE1019 GE1020)))
        have n4_ := Aside0.mk (lb_ BK1018 hb)
        have n5_ := Aside0.mk (lb_ BK1019 hb)
        have n6_ := Aside0.mk (lb_ BK1020 hb)
        have n7_ := Aside0.mk (below_step (bb3_ HB GE1018 GE1019 GE1020) hb)
        clear HO1023
        clear HO1026
        clear HO1030
        clear BK1018
        clear BK1019
        clear BK1020
        clear HB
        have HO1023 := n0_
        have HO1026 := n1_
        have HO1030 := n2_
        have HO1036 := n3_
        have BK1018 := n4_
        have BK1019 := n5_
        have BK1020 := n6_
        have HB := n7_
        clear n0_ n1_ n2_ n3_ n4_ n5_ n6_ n7_
        clear hb ho36
        refine hK.out _ _ ⟨(blk_cell BK1018.out 0).trans rfl, (blk_cell BK1018.out 1).trans rfl, (blk_cell BK1018.out 2).trans rfl, (blk_cell BK1019.out 0).trans rfl, (blk_cell BK1019.out 1).trans rfl, (blk_cell BK1019.out 2).trans rfl, (blk_cell BK1019.out 3).trans rfl⟩ (fun hHeld => ?_)
        clear hK K
        refine norm_ (a' := ?_) ?_ ?_
        rotate_left
        ·show Act.put _ (some 30) _ = _
         simp only [Act.put, sA_, sB_, sC_, i64_w, i32_w]
         rfl
        refine one_ (i := 4) (N := some 28) #[true, true, true, true, true, true, true, false, false, false, false] rfl rfl (one_of HT_.out (by kernel_rfl)) (by decide) (fun K hK => ?_)
        refine Kd.R_append_rows_step k25 (w0 := w) w.heap.size (by rfl) (.tmp 25) (.tmp 27) 33 25 (.agg #[(.int .i64 0), (.int .i64 0), (.string ⟨#[]⟩), (.string ⟨#[]⟩)]) 48 rfl Try.underlying33 info25 rfl (by decide) (by omega) v1029 y1028 l0_1 _ _ _ (fun k_ => some k_ ≠ (v1035 : Value).ownBlock ∧ k_ ≠ gb1019) (fun _ => False) rfl rfl ?aO ?aR (fun _ _ h => h) (fun _ h => h.elim) ?aF ?aB ?aS ?aL ?_
        (case aR => exact cb_ HR0_1 HB)
        (case aB => exact (bb3_ HB GE1018 GE1019 GE1020))
        (case aF => exact (fun k_ hk => ⟨Kd.fresh' (Kd.R_lt (ra_ HO1036)) k_ hk, Kd.freshB (g := gb1019) (o := .cells #[.int .i64 a1_0, .int .i64 a1_1, .string a1_2, .string a1_3] 25 (0, 0)) (la_ BK1019) k_ hk⟩))
        (case aO => exact (by (with_reducible repeat (first | apply rA_ | apply rN_ | apply rD_)); exact Kd.R_mono HO1030.out (fun _ hk => ⟨hk.2, hk.1.2⟩)))
        (case aS => exact (below_size (bb3_ HB GE1018 GE1019 GE1020)))
        (case aL => have := LMc19.out; omega)
        intro v1032 w37 ho hb hg hat
        rw [← Ny1031.out] at ho
        have n0_ := Aside0.mk (blk_grown (g := gb1018) (o := .cells #[.slice A0_0 l0_0.length c0_0, .slice A0_1 l0_1.length c0_1, .slice A0_2 l0_2.length c0_2] 35 (0, 0)) (la_ BK1018) hg (Kd.R_ne HO1030.out BK1018.out (by decide)))
        have n1_ := Aside0.mk (blk_grown (g := gb1019) (o := .cells #[.int .i64 a1_0, .int .i64 a1_1, .string a1_2, .string a1_3] 25 (0, 0)) (la_ BK1019) hg (Kd.R_away HO1030.out (fun _ hk => hk.1.2)))
        have n2_ := Aside0.mk (blk_grown (g := gb1020) (o := .cells #[.slice none 0 0, .slice none 0 0, .slice none 0 0] 35 (0, 0)) (la_ BK1020) hg (Kd.R_ne HO1030.out BK1020.out (by decide)))
        have n3_ := Aside0.mk (Kd.R_over' (ra_ HO1023) (Kd.R_typed (ra_ HO1030)) (by decide) hg)
        have n4_ := Aside0.mk (Kd.R_over' (ra_ HO1026) (Kd.R_typed (ra_ HO1030)) (by decide) hg)
        have n5_ := Aside0.mk (Kd.R_after (ok := (fun k_ => k_ ≠ gb1019)) (by (with_reducible repeat (first | apply rA_ | apply rN_ | apply rD_)); exact Kd.R_mono HO1036.out (fun _ hk => ⟨hk.2, hk.1.2⟩)) hg hat)
        have n6_ := Aside0.mk (hb)
        have n7_ := Aside0.mk (ho)
        clear BK1018
        clear BK1019
        clear BK1020
        clear HO1023
        clear HO1026
        clear HO1036
        clear HB
        clear HO1030
        have BK1018 := n0_
        have BK1019 := n1_
        have BK1020 := n2_
        have HO1023 := n3_
        have HO1026 := n4_
        have HO1036 := n5_
        have HB := n6_
        have HO1033 := n7_
        clear n0_ n1_ n2_ n3_ n4_ n5_ n6_ n7_
        clear ho hb hg hat
        refine hK.out _ _ ⟨(blk_cell BK1018.out 0).trans rfl, (blk_cell BK1018.out 1).trans rfl, (blk_cell BK1018.out 2).trans rfl, (blk_cell BK1019.out 0).trans rfl, (blk_cell BK1019.out 1).trans rfl, (blk_cell BK1019.out 2).trans rfl, (blk_cell BK1019.out 3).trans rfl⟩ (fun hHeld => ?_)
        clear hK K
        refine norm_ (a' := ?_) ?_ ?_
        rotate_left
        ·show Act.put _ (some 28) _ = _
         simp only [Act.put, sA_, sB_, sC_, i64_w, i32_w]
         rfl
        exact norm_ (by simp only [putAll, Act.put, List.setIfInBounds_toArray, List.set_cons_zero, List.set_cons_succ]) (hCont (v1029, v1032, v1035) _ ⟨hHeld, (by (with_reducible repeat (first | apply rA_ | apply rN_ | apply rD_)); exact Kd.R_mono HO1023.out (fun _ hk => hk.2)), (by (with_reducible repeat (first | apply rA_ | apply rN_ | apply rD_)); exact Kd.R_mono HO1026.out (fun _ hk => hk.2)), (ra_ HO1033), (by (with_reducible repeat (first | apply rA_ | apply rN_ | apply rD_)); exact Kd.R_mono HO1036.out (fun _ hk => ⟨hk.2, hk.1⟩)), (la_ BK1018), (la_ BK1019), (la_ BK1020), (bb3_ HB GE1018 GE1019 GE1020)⟩)
      ·skip
       refine Kd.R_lit_step k25 _ 25 ?hg (N := 30) ?hd (xs := ([(⟨a1_0, a1_1, a1_2, a1_3⟩ : S25)] : List (S25))) (inner := [.int .i64 a1_0, .int .i64 a1_1, .string a1_2, .string a1_3]) (ok := fun _ => True) (okp := fun _ => True) ?hr ?hp (fun _ hk => hk) trivial (Below.refl _ _) (Nat.le_refl _) (by simp) ?_; (case hd => rfl); (case hg => rfl); (case hr => first | (go_simp; done) | (go_simp; rfl)); (case hp => exact (Reps.c4 (show Kd.M k25 _ _ _ (⟨a1_0, a1_1, a1_2, a1_3⟩ : S25) [.int .i64 a1_0, .int .i64 a1_1, .string a1_2, .string a1_3] from (k25_mkM _ _ _ (⟨a1_0, a1_1, a1_2, a1_3⟩ : S25) )) (Reps.none _ _)))
       intro v1035 w33 ho34 hb hg_ hnew_
       clear hg_ hnew_
       (first | rw [← Ny1034.out] at ho34 | (simp only [Int.reduceToNat] at ho34; rw [← Ny1034.out] at ho34))
       have n0_ := Aside0.mk (Kd.R_below (ra_ HO1023) hb)
       have n1_ := Aside0.mk (Kd.R_below (ra_ HO1026) hb)
       have n2_ := Aside0.mk (Kd.R_lower (Kd.R_newB ho34 (g := gb1019) (o := .cells #[.int .i64 a1_0, .int .i64 a1_1, .string a1_2, .string a1_3] 25 (0, 0)) (la_ BK1019)) (below_size (bb3_ HB GE1018 GE1019 GE1020)))
       have n3_ := Aside0.mk (lb_ BK1018 hb)
       have n4_ := Aside0.mk (lb_ BK1019 hb)
       have n5_ := Aside0.mk (lb_ BK1020 hb)
       have n6_ := Aside0.mk (below_step (bb3_ HB GE1018 GE1019 GE1020) hb)
       clear HO1023
       clear HO1026
       clear BK1018
       clear BK1019
       clear BK1020
       clear HB
       have HO1023 := n0_
       have HO1026 := n1_
       have HO1036 := n2_
       have BK1018 := n3_
       have BK1019 := n4_
       have BK1020 := n5_
       have HB := n6_
       clear n0_ n1_ n2_ n3_ n4_ n5_ n6_
       clear hb ho34
       refine hK.out _ _ ⟨(blk_cell BK1018.out 0).trans rfl, (blk_cell BK1018.out 1).trans rfl, (blk_cell BK1018.out 2).trans rfl, (blk_cell BK1019.out 0).trans rfl, (blk_cell BK1019.out 1).trans rfl, (blk_cell BK1019.out 2).trans rfl, (blk_cell BK1019.out 3).trans rfl⟩ (fun hHeld => ?_)
       clear hK K
       refine norm_ (a' := ?_) ?_ ?_
       rotate_left
       ·show Act.put _ (some 30) _ = _
        simp only [Act.put, sA_, sB_, sC_, i64_w, i32_w]
        rfl
       refine one_ (i := 1) (N := some 25) #[true, true, true, true, false, true, true, false, false, false, false] rfl rfl (one_of HT_.out (by kernel_rfl)) (by decide) (fun K hK => ?_)
       refine Kd.R_lit_step k25 _ 25 ?hg (N := 25) ?hd (xs := ([] : List (S25))) (inner := []) (ok := fun _ => True) (okp := fun _ => True) ?hr ?hp (fun _ hk => hk) trivial (Below.refl _ _) (Nat.le_refl _) (by simp) ?_; (case hd => rfl); (case hg => rfl); (case hr => first | (go_simp; done) | (go_simp; rfl)); (case hp => exact (Reps.none _ _))
       intro v1029 w35 ho36 hb hg_ hnew_
       clear hg_ hnew_
       (first | rw [← Ny1028.out] at ho36 | (simp only [Int.reduceToNat] at ho36; rw [← Ny1028.out] at ho36))
       have n0_ := Aside0.mk (Kd.R_below (ra_ HO1023) hb)
       have n1_ := Aside0.mk (Kd.R_below (ra_ HO1026) hb)
       have n2_ := Aside0.mk (Kd.R_elder' (ra_ HO1036) (Kd.R_base ho36) hb)
       have n3_ := Aside0.mk (Kd.R_lower (Kd.R_newB (Kd.R_new' ho36 (Kd.R_lt (ra_ HO1036))) (g := gb1019) (o := .cells #[.int .i64 a1_0, .int .i64 a1_1, .string a1_2, .string a1_3] 25 (0, 0)) (la_ BK1019)) (below_size (bb3_ HB GE1018 GE1019 GE1020)))
       have n4_ := Aside0.mk (lb_ BK1018 hb)
       have n5_ := Aside0.mk (lb_ BK1019 hb)
       have n6_ := Aside0.mk (lb_ BK1020 hb)
       have n7_ := Aside0.mk (below_step (bb3_ HB GE1018 GE1019 GE1020) hb)
       clear HO1023
       clear HO1026
       clear HO1036
       clear BK1018
       clear BK1019
       clear BK1020
       clear HB
       have HO1023 := n0_
       have HO1026 := n1_
       have HO1036 := n2_
       have HO1030 := n3_
       have BK1018 := n4_
       have BK1019 := n5_
       have BK1020 := n6_
       have HB := n7_
       clear n0_ n1_ n2_ n3_ n4_ n5_ n6_ n7_
       clear hb ho36
       refine hK.out _ _ ⟨(blk_cell BK1018.out 0).trans rfl, (blk_cell BK1018.out 1).trans rfl, (blk_cell BK1018.out 2).trans rfl, (blk_cell BK1019.out 0).trans rfl, (blk_cell BK1019.out 1).trans rfl, (blk_cell BK1019.out 2).trans rfl, (blk_cell BK1019.out 3).trans rfl⟩ (fun hHeld => ?_)
       clear hK K
       refine norm_ (a' := ?_) ?_ ?_
       rotate_left
       ·show Act.put _ (some 25) _ = _
        simp only [Act.put, sA_, sB_, sC_, i64_w, i32_w]
        rfl
       refine one_ (i := 4) (N := some 28) #[true, true, true, true, true, true, true, false, false, false, false] rfl rfl (one_of HT_.out (by kernel_rfl)) (by decide) (fun K hK => ?_)
       refine Kd.R_append_rows_step k25 (w0 := w) w.heap.size (by rfl) (.tmp 25) (.tmp 27) 33 25 (.agg #[(.int .i64 0), (.int .i64 0), (.string ⟨#[]⟩), (.string ⟨#[]⟩)]) 48 rfl Try.underlying33 info25 rfl (by decide) (by omega) v1029 y1028 l0_1 _ _ _ (fun k_ => some k_ ≠ (v1035 : Value).ownBlock ∧ k_ ≠ gb1019) (fun _ => False) rfl rfl ?aO ?aR (fun _ _ h => h) (fun _ h => h.elim) ?aF ?aB ?aS ?aL ?_
       (case aR => exact cb_ HR0_1 HB)
       (case aB => exact (bb3_ HB GE1018 GE1019 GE1020))
       (case aF => exact (fun k_ hk => ⟨Kd.fresh' (Kd.R_lt (ra_ HO1036)) k_ hk, Kd.freshB (g := gb1019) (o := .cells #[.int .i64 a1_0, .int .i64 a1_1, .string a1_2, .string a1_3] 25 (0, 0)) (la_ BK1019) k_ hk⟩))
       (case aO => exact (by (with_reducible repeat (first | apply rA_ | apply rN_ | apply rD_)); exact Kd.R_mono HO1030.out (fun _ hk => ⟨hk.1.2, hk.2⟩)))
       (case aS => exact (below_size (bb3_ HB GE1018 GE1019 GE1020)))
       (case aL => have := LMc19.out; omega)
       intro v1032 w37 ho hb hg hat
       rw [← Ny1031.out] at ho
       have n0_ := Aside0.mk (blk_grown (g := gb1018) (o := .cells #[.slice A0_0 l0_0.length c0_0, .slice A0_1 l0_1.length c0_1, .slice A0_2 l0_2.length c0_2] 35 (0, 0)) (la_ BK1018) hg (Kd.R_ne HO1030.out BK1018.out (by decide)))
       have n1_ := Aside0.mk (blk_grown (g := gb1019) (o := .cells #[.int .i64 a1_0, .int .i64 a1_1, .string a1_2, .string a1_3] 25 (0, 0)) (la_ BK1019) hg (Kd.R_away HO1030.out (fun _ hk => hk.2)))
       have n2_ := Aside0.mk (blk_grown (g := gb1020) (o := .cells #[.slice none 0 0, .slice none 0 0, .slice none 0 0] 35 (0, 0)) (la_ BK1020) hg (Kd.R_ne HO1030.out BK1020.out (by decide)))
       have n3_ := Aside0.mk (Kd.R_over' (ra_ HO1023) (Kd.R_typed (ra_ HO1030)) (by decide) hg)
       have n4_ := Aside0.mk (Kd.R_over' (ra_ HO1026) (Kd.R_typed (ra_ HO1030)) (by decide) hg)
       have n5_ := Aside0.mk (Kd.R_after (ok := (fun k_ => k_ ≠ gb1019)) (by (with_reducible repeat (first | apply rA_ | apply rN_ | apply rD_)); exact Kd.R_mono HO1036.out (fun _ hk => ⟨hk.1.2, hk.2⟩)) hg hat)
       have n6_ := Aside0.mk (hb)
       have n7_ := Aside0.mk (ho)
       clear BK1018
       clear BK1019
       clear BK1020
       clear HO1023
       clear HO1026
       clear HO1036
       clear HB
       clear HO1030
       have BK1018 := n0_
       have BK1019 := n1_
       have BK1020 := n2_
       have HO1023 := n3_
       have HO1026 := n4_
       have HO1036 := n5_
       have HB := n6_
       have HO1033 := n7_
       clear n0_ n1_ n2_ n3_ n4_ n5_ n6_ n7_
       clear ho hb hg hat
       refine hK.out _ _ ⟨(blk_cell BK1018.out 0).trans rfl, (blk_cell BK1018.out 1).trans rfl, (blk_cell BK1018.out 2).trans rfl, (blk_cell BK1019.out 0).trans rfl, (blk_cell BK1019.out 1).trans rfl, (blk_cell BK1019.out 2).trans rfl, (blk_cell BK1019.out 3).trans rfl⟩ (fun hHeld => ?_)
       clear hK K
       refine norm_ (a' := ?_) ?_ ?_
       rotate_left
       ·show Act.put _ (some 28) _ = _
        simp only [Act.put, sA_, sB_, sC_, i64_w, i32_w]
        rfl
       exact norm_ (by simp only [putAll, Act.put, List.setIfInBounds_toArray, List.set_cons_zero, List.set_cons_succ]) (hCont (v1029, v1032, v1035) _ ⟨hHeld, (by (with_reducible repeat (first | apply rA_ | apply rN_ | apply rD_)); exact Kd.R_mono HO1023.out (fun _ hk => hk.2)), (by (with_reducible repeat (first | apply rA_ | apply rN_ | apply rD_)); exact Kd.R_mono HO1026.out (fun _ hk => hk.2)), (ra_ HO1033), (by (with_reducible repeat (first | apply rA_ | apply rN_ | apply rD_)); exact Kd.R_mono HO1036.out (fun _ hk => ⟨hk.2, hk.1⟩)), (la_ BK1018), (la_ BK1019), (la_ BK1020), (bb3_ HB GE1018 GE1019 GE1020)⟩)
     rintro ⟨v1029, v1032, v1035⟩ w38 ⟨hS_, h0_, h1_, h2_, h3_, h4_, h5_, h6_, h7_⟩
     have n0_ : Aside0 (Kd.R Kd.string 9 w38 w.heap.size (fun k_ => some k_ ≠ (v1025 : Value).ownBlock) (.slice Ao27 t1021.length co27) t1021) := ⟨h0_⟩
     have n1_ : Aside0 (Kd.R Kd.string 9 w38 w.heap.size (fun k_ => some k_ ≠ (.slice Ao27 t1021.length co27 : Value).ownBlock) v1025 t1024) := ⟨h1_⟩
     have n2_ : Aside0 (Kd.R k25 25 w38 w.heap.size (fun k_ => some k_ ≠ (v1035 : Value).ownBlock ∧ k_ ≠ gb1019) v1032 y1031) := ⟨h2_⟩
     have n3_ : Aside0 (Kd.R k25 25 w38 w.heap.size (fun k_ => some k_ ≠ (v1032 : Value).ownBlock ∧ k_ ≠ gb1019) v1035 y1034) := ⟨h3_⟩
     have n4_ : Aside0 (w38.heap[gb1018]? = some (.cells #[.slice A0_0 l0_0.length c0_0, .slice A0_1 l0_1.length c0_1, .slice A0_2 l0_2.length c0_2] 35 (0, 0))) := ⟨h4_⟩
     have n5_ : Aside0 (w38.heap[gb1019]? = some (.cells #[.int .i64 a1_0, .int .i64 a1_1, .string a1_2, .string a1_3] 25 (0, 0))) := ⟨h5_⟩
     have n6_ : Aside0 (w38.heap[gb1020]? = some (.cells #[.slice none 0 0, .slice none 0 0, .slice none 0 0] 35 (0, 0))) := ⟨h6_⟩
     have n7_ : Aside0 (Below w.heap.size w w38) := ⟨h7_⟩
     clear HO1023
     clear HO1026
     clear BK1018
     clear BK1019
     clear BK1020
     clear HB
     clear h0_ h1_ h2_ h3_ h4_ h5_ h6_ h7_
     have HO1023 := n0_
     have HO1026 := n1_
     have HO1033 := n2_
     have HO1036 := n3_
     have BK1018 := n4_
     have BK1019 := n5_
     have BK1020 := n6_
     have HB := n7_
     clear n0_ n1_ n2_ n3_ n4_ n5_ n6_ n7_
     have hHeld : w38.cell? ⟨gb1018, 0, none⟩ = some (.slice A0_0 l0_0.length c0_0) ∧ w38.cell? ⟨gb1018, 1, none⟩ = some (.slice A0_1 l0_1.length c0_1) ∧ w38.cell? ⟨gb1018, 2, none⟩ = some (.slice A0_2 l0_2.length c0_2) ∧ w38.cell? ⟨gb1019, 0, none⟩ = some (.int .i64 a1_0) ∧ w38.cell? ⟨gb1019, 1, none⟩ = some (.int .i64 a1_1) ∧ w38.cell? ⟨gb1019, 2, none⟩ = some (.string a1_2) ∧ w38.cell? ⟨gb1019, 3, none⟩ = some (.string a1_3) := hS_
     obtain ⟨Ao40, co40, eo40⟩ := Kd.R_slice HO1036.out
     (first | subst eo40 | (injection eo40 with f1_ f2_ f3_; have f4_ := f1_.symm; have f5_ := f3_.symm; clear f1_ f2_ f3_; subst f4_; subst f5_))
     refine norm_ (a' := ?_) ?_ ?_
     rotate_left
     ·simp only [putAll, Act.put, List.setIfInBounds_toArray, List.set_cons_zero, List.set_cons_succ]
      rfl
     refine one_ (i := 7) (N := some 31) #[true, true, true, true, true, true, true, true, false, false, false] rfl rfl (one_of HT_.out (by kernel_rfl)) (by decide) (fun K hK => ?_)
     refine Kd.R_append_rows_step k25 (w0 := w) w.heap.size (by rfl) (.tmp 28) (.tmp 30) 33 25 (.agg #[(.int .i64 0), (.int .i64 0), (.string ⟨#[]⟩), (.string ⟨#[]⟩)]) 48 rfl Try.underlying33 info25 rfl (by decide) (by omega) v1032 y1031 y1034 _ _ _ (fun k_ => some k_ ≠ (.slice Ao40 y1034.length co40 : Value).ownBlock ∧ k_ ≠ gb1019) (fun _ => False) rfl rfl ?aO ?aR (fun _ _ h => h) (fun _ h => h.elim) ?aF ?aB ?aS ?aL ?_
     (case aR => exact cr_ HO1036)
     (case aB => exact (bb3_ HB GE1018 GE1019 GE1020))
     (case aF => exact (fun k_ hk => ⟨Kd.fresh' (Kd.R_lt (ra_ HO1036)) k_ hk, Kd.freshB (g := gb1019) (o := .cells #[.int .i64 a1_0, .int .i64 a1_1, .string a1_2, .string a1_3] 25 (0, 0)) (la_ BK1019) k_ hk⟩))
     (case aO => exact (ra_ HO1033))
     (case aS => exact (below_size (bb3_ HB GE1018 GE1019 GE1020)))
     (case aL => have := LMc20.out; omega)
     intro v1038 w39 ho hb hg hat
     rw [← Ny1037.out] at ho
     have n0_ := Aside0.mk (blk_grown (g := gb1018) (o := .cells #[.slice A0_0 l0_0.length c0_0, .slice A0_1 l0_1.length c0_1, .slice A0_2 l0_2.length c0_2] 35 (0, 0)) (la_ BK1018) hg (Kd.R_ne HO1033.out BK1018.out (by decide)))
     have n1_ := Aside0.mk (blk_grown (g := gb1019) (o := .cells #[.int .i64 a1_0, .int .i64 a1_1, .string a1_2, .string a1_3] 25 (0, 0)) (la_ BK1019) hg (Kd.R_away HO1033.out (fun _ hk => hk.2)))
     have n2_ := Aside0.mk (blk_grown (g := gb1020) (o := .cells #[.slice none 0 0, .slice none 0 0, .slice none 0 0] 35 (0, 0)) (la_ BK1020) hg (Kd.R_ne HO1033.out BK1020.out (by decide)))
     have n3_ := Aside0.mk (Kd.R_over' (ra_ HO1023) (Kd.R_typed (ra_ HO1033)) (by decide) hg)
     have n4_ := Aside0.mk (Kd.R_over' (ra_ HO1026) (Kd.R_typed (ra_ HO1033)) (by decide) hg)
     have n5_ := Aside0.mk (Kd.R_after (ok := (fun k_ => k_ ≠ gb1019)) (by (with_reducible repeat (first | apply rA_ | apply rN_ | apply rD_)); exact Kd.R_mono HO1036.out (fun _ hk => ⟨hk.2, hk.1⟩)) hg hat)
     have n6_ := Aside0.mk (hb)
     have n7_ := Aside0.mk (ho)
     clear BK1018
     clear BK1019
     clear BK1020
     clear HO1023
     clear HO1026
     clear HO1036
     clear HB
     clear HO1033
     have BK1018 := n0_
     have BK1019 := n1_
     have BK1020 := n2_
     have HO1023 := n3_
     have HO1026 := n4_
     have HO1036 := n5_
     have HB := n6_
     have HO1039 := n7_
     clear n0_ n1_ n2_ n3_ n4_ n5_ n6_ n7_
     clear ho hb hg hat
     obtain ⟨Ao41, co41, eo41⟩ := Kd.R_slice HO1039.out
     (first | subst eo41 | (injection eo41 with f1_ f2_ f3_; have f4_ := f1_.symm; have f5_ := f3_.symm; clear f1_ f2_ f3_; subst f4_; subst f5_))
     refine hK.out _ _ ⟨(blk_cell BK1018.out 0).trans rfl, (blk_cell BK1018.out 1).trans rfl, (blk_cell BK1018.out 2).trans rfl, (blk_cell BK1019.out 0).trans rfl, (blk_cell BK1019.out 1).trans rfl, (blk_cell BK1019.out 2).trans rfl, (blk_cell BK1019.out 3).trans rfl⟩ (fun hHeld => ?_)
     clear hK K
     refine norm_ (a' := ?_) ?_ ?_
     rotate_left
     ·show Act.put _ (some 31) _ = _
      simp only [Act.put, sA_, sB_, sC_, i64_w, i32_w]
      rfl
     refine one_ (i := 8) (N := some 32) #[true, true, true, true, true, true, true, true, true, false, false] rfl rfl (one_of HT_.out (by kernel_rfl)) (by decide) (fun K hK => ?_)
     refine goes_ Try.func68 (by kernel_rfl) rfl #[.agg #[.slice A0_0 l0_0.length c0_0, .slice A0_1 l0_1.length c0_1, .slice A0_2 l0_2.length c0_2], .slice Ao41 y1037.length co41, .slice none 0 0] (by rfl) rfl rfl args_ ?_
     refine (spec_unDesk.calls _ _ l0_0 _ _ l0_1 _ _ l0_2 _ _ y1037 _ _ ([] : List (S25)) t1040 t1043 t1046 _ ?side1 ?side2 ?side3 ?side4 ?side5 ?side6 ?side7 ?side8 ?side9 ?side10 A21.out).mono ?_
     (case side1 => exact cb_ HR0_0 HB)
     (case side2 => exact HC0_0.out)
     (case side3 => exact cb_ HR0_1 HB)
     (case side4 => exact HC0_1.out)
     (case side5 => exact cb_ HR0_2 HB)
     (case side6 => exact HC0_2.out)
     (case side7 => exact cr_ HO1039)
     (case side8 => exact (Kd.R_reads' HO1039.out).2.1)
     (case side9 => exact Kd.C_nil _ _)
     (case side10 => exact Nat.le_refl _)
     rintro e w42 ⟨v1041, v1044, v1047, rfl, ho0, ho1, ho2, hb⟩
     refine ⟨_, rfl, ?_⟩
     have n0_ := Aside0.mk (Kd.R_elder' (ra_ HO1023) (Kd.R_base ho0) hb)
     have n1_ := Aside0.mk (Kd.R_elder' (ra_ HO1026) (Kd.R_base ho0) hb)
     have n2_ := Aside0.mk (Kd.R_mono (Kd.R_told (Kd.R_told (Kd.R_old (ra_ HO1036) hb) (Kd.R_base ho1)) (Kd.R_base ho2)) (fun _ h_ => h_.1))
     have n3_ := Aside0.mk (Kd.R_mono (Kd.R_told (Kd.R_told (Kd.R_old (ra_ HO1039) hb) (Kd.R_base ho1)) (Kd.R_base ho2)) (fun _ h_ => h_.1))
     have n4_ := Aside0.mk (Kd.R_lower (Kd.R_new' (Kd.R_new' ho0 (Kd.R_lt (ra_ HO1023))) (Kd.R_lt (ra_ HO1026))) (below_size (bb3_ HB GE1018 GE1019 GE1020)))
     have n5_ := Aside0.mk (Kd.R_lower (Kd.R_newB (Kd.R_new' (Kd.R_new' ho1 (Kd.R_lt (ra_ HO1036))) (Kd.R_lt (ra_ HO1039))) (g := gb1019) (o := .cells #[.int .i64 a1_0, .int .i64 a1_1, .string a1_2, .string a1_3] 25 (0, 0)) (la_ BK1019)) (below_size (bb3_ HB GE1018 GE1019 GE1020)))
     have n6_ := Aside0.mk (Kd.R_lower (Kd.R_newB (Kd.R_new' (Kd.R_new' ho2 (Kd.R_lt (ra_ HO1036))) (Kd.R_lt (ra_ HO1039))) (g := gb1019) (o := .cells #[.int .i64 a1_0, .int .i64 a1_1, .string a1_2, .string a1_3] 25 (0, 0)) (la_ BK1019)) (below_size (bb3_ HB GE1018 GE1019 GE1020)))
     have n7_ := Aside0.mk (lb_ BK1018 hb)
     have n8_ := Aside0.mk (lb_ BK1019 hb)
     have n9_ := Aside0.mk (lb_ BK1020 hb)
     have n10_ := Aside0.mk (below_step (bb3_ HB GE1018 GE1019 GE1020) hb)
     clear HO1023
     clear HO1026
     clear HO1036
     clear HO1039
     clear BK1018
     clear BK1019
     clear BK1020
     clear HB
     have HO1023 := n0_
     have HO1026 := n1_
     have HO1036 := n2_
     have HO1039 := n3_
     have HO1042 := n4_
     have HO1045 := n5_
     have HO1048 := n6_
     have BK1018 := n7_
     have BK1019 := n8_
     have BK1020 := n9_
     have HB := n10_
     clear n0_ n1_ n2_ n3_ n4_ n5_ n6_ n7_ n8_ n9_ n10_
     (try clear hb)
     (try clear hb2)
     (try clear hk)
     (try clear hi)
     (try clear ho0)
     (try clear ho1)
     (try clear ho2)
     obtain ⟨Ao43, co43, eo43⟩ := Kd.R_slice HO1042.out
     (first | subst eo43 | (injection eo43 with f1_ f2_ f3_; have f4_ := f1_.symm; have f5_ := f3_.symm; clear f1_ f2_ f3_; subst f4_; subst f5_))
     obtain ⟨Ao45, co45, eo45⟩ := Kd.R_slice HO1045.out
     (first | subst eo45 | (injection eo45 with f1_ f2_ f3_; have f4_ := f1_.symm; have f5_ := f3_.symm; clear f1_ f2_ f3_; subst f4_; subst f5_))
     obtain ⟨Ao47, co47, eo47⟩ := Kd.R_slice HO1048.out
     (first | subst eo47 | (injection eo47 with f1_ f2_ f3_; have f4_ := f1_.symm; have f5_ := f3_.symm; clear f1_ f2_ f3_; subst f4_; subst f5_))
     refine hK.out _ _ ⟨(blk_cell BK1018.out 0).trans rfl, (blk_cell BK1018.out 1).trans rfl, (blk_cell BK1018.out 2).trans rfl, (blk_cell BK1019.out 0).trans rfl, (blk_cell BK1019.out 1).trans rfl, (blk_cell BK1019.out 2).trans rfl, (blk_cell BK1019.out 3).trans rfl⟩ (fun hHeld => ?_)
     clear hK K
     refine norm_ (a' := ?_) ?_ ?_
     rotate_left
     ·show Act.put _ (some 32) _ = _
      simp only [Act.put, sA_, sB_, sC_, i64_w, i32_w]
      rfl
     refine one_ (i := 9) (N := none) #[true, true, true, true, true, true, true, true, true, true, false] rfl rfl (one_of HT_.out (by kernel_rfl)) (by decide) (fun K hK => ?_)
     have hs44 := cz0_ BK1020
     have hfs44 := fz_ BK1020 0
     have hns44_0 := NB1018_1020.out
     have hns44_1 := NB1019_1020.out
     have hms44_0 := NB1020_1018.out
     have hms44_1 := NB1020_1019.out
     have hs46 := cz1_ BK1020
     have hfs46 := fz_ BK1020 1
     have hns46_0 := NB1018_1020.out
     have hns46_1 := NB1019_1020.out
     have hms46_0 := NB1020_1018.out
     have hms46_1 := NB1020_1019.out
     have hs48 := cz2_ BK1020
     have hfs48 := fz_ BK1020 2
     have hns48_0 := NB1018_1020.out
     have hns48_1 := NB1019_1020.out
     have hms48_0 := NB1020_1018.out
     have hms48_1 := NB1020_1019.out
     refine skip_ (w1 := ?_) (by rfl) rfl ?_ ?_
     rotate_left
     ·go_simp
      rfl
     refine hK.out _ _ ⟨((cell_far (p := ⟨gb1020, _, none⟩) NB1018_1020.out _).trans (((cell_far (p := ⟨gb1020, _, none⟩) NB1018_1020.out _).trans (((cell_far (p := ⟨gb1020, _, none⟩) NB1018_1020.out _).trans (hHeld.1)))))), ((cell_far (p := ⟨gb1020, _, none⟩) NB1018_1020.out _).trans (((cell_far (p := ⟨gb1020, _, none⟩) NB1018_1020.out _).trans (((cell_far (p := ⟨gb1020, _, none⟩) NB1018_1020.out _).trans (hHeld.2.1)))))), ((cell_far (p := ⟨gb1020, _, none⟩) NB1018_1020.out _).trans (((cell_far (p := ⟨gb1020, _, none⟩) NB1018_1020.out _).trans (((cell_far (p := ⟨gb1020, _, none⟩) NB1018_1020.out _).trans (hHeld.2.2.1)))))), ((cell_far (p := ⟨gb1020, _, none⟩) NB1019_1020.out _).trans (((cell_far (p := ⟨gb1020, _, none⟩) NB1019_1020.out _).trans (((cell_far (p := ⟨gb1020, _, none⟩) NB1019_1020.out _).trans (hHeld.2.2.2.1)))))), ((cell_far (p := ⟨gb1020, _, none⟩) NB1019_1020.out _).trans (((cell_far (p := ⟨gb1020, _, none⟩) NB1019_1020.out _).trans (((cell_far (p := ⟨gb1020, _, none⟩) NB1019_1020.out _).trans (hHeld.2.2.2.2.1)))))), ((cell_far (p := ⟨gb1020, _, none⟩) NB1019_1020.out _).trans (((cell_far (p := ⟨gb1020, _, none⟩) NB1019_1020.out _).trans (((cell_far (p := ⟨gb1020, _, none⟩) NB1019_1020.out _).trans (hHeld.2.2.2.2.2.1)))))), ((cell_far (p := ⟨gb1020, _, none⟩) NB1019_1020.out _).trans (((cell_far (p := ⟨gb1020, _, none⟩) NB1019_1020.out _).trans (((cell_far (p := ⟨gb1020, _, none⟩) NB1019_1020.out _).trans (hHeld.2.2.2.2.2.2))))))⟩ (fun hHeld => ?_)
     clear hK K
     refine pu_ (i := 10) (N := some 5) (v := ?_) (a' := ?_) #[true, true, true, true, true, true, true, true, true, true, true] rfl rfl (Or.inl ⟨by rfl, ?_⟩) ?_ ?_
     rotate_left
     ·intro w'
      go_simp
      with_reducible rfl
     rotate_left
     ·simp only [Act.put, sA_, sB_, sC_, i64_w, i32_w]
      rfl
     refine done_ (done_of HT_.out (by kernel_rfl)) ?_
     try go_wp2
     refine bodyPost_ret (results_ct rfl _ _ gb1020 35 #[.slice Ao43 t1040.length co43, .slice Ao45 t1043.length co45, .slice Ao47 t1046.length co47] (0, 0) _ rfl (by (with_reducible repeat (first | apply lN_ | apply lD_ | apply lA_)); refine blk_put (cs := #[.slice Ao43 t1040.length co43, .slice Ao45 t1043.length co45, .slice none 0 0]) ?_ 2 _ rfl; (with_reducible repeat (first | apply lN_ | apply lD_ | apply lA_)); refine blk_put (cs := #[.slice Ao43 t1040.length co43, .slice none 0 0, .slice none 0 0]) ?_ 1 _ rfl; (with_reducible repeat (first | apply lN_ | apply lD_ | apply lA_)); refine blk_put (cs := #[.slice none 0 0, .slice none 0 0, .slice none 0 0]) ?_ 0 _ rfl; (with_reducible repeat (first | apply lN_ | apply lD_ | apply lA_)); exact BK1020.out) Try.underlying35 rfl (by kernel_rfl)) rfl ?_
     exact ⟨_, _, _, by first | rfl | (simp [errW_none, errW_some] <;> rfl) | (simp [*, errW_none, errW_some] <;> rfl), by (with_reducible repeat (first | apply rA_ | apply rN_ | apply rD_)); exact Kd.R_mono (fr_ (fr_ (fr_ (ft_ HO1042 BK1020) 0 (.slice Ao43 t1040.length co43)) 1 (.slice Ao45 t1043.length co45)) 2 (.slice Ao47 t1046.length co47)) (fun _ hk => trivial), by (with_reducible repeat (first | apply rA_ | apply rN_ | apply rD_)); exact Kd.R_mono (fr_ (fr_ (fr_ (ft_ HO1045 BK1020) 0 (.slice Ao43 t1040.length co43)) 1 (.slice Ao45 t1043.length co45)) 2 (.slice Ao47 t1046.length co47)) (fun _ hk => hk.1.1.1.1), by (with_reducible repeat (first | apply rA_ | apply rN_ | apply rD_)); exact Kd.R_mono (fr_ (fr_ (fr_ (ft_ HO1048 BK1020) 0 (.slice Ao43 t1040.length co43)) 1 (.slice Ao45 t1043.length co45)) 2 (.slice Ao47 t1046.length co47)) (fun _ hk => hk.1.1.1.1), bb3_ HB GE1018 GE1019 GE1020⟩
    ·rw [if_neg c20] at H
     exact absurd H (by simp)
   ·rw [if_neg c19] at H
    exact absurd H (by simp)
 ·replace c5 := Bool.eq_false_iff.mpr c5
  subst c5
  have H1 : (some (([] : List ByteArray), ([] : List (S25)), ([] : List (S25)), false)) = some (r1, r2, r3, r4) := by rw [if_neg (show ¬ (false = true) by decide)] at H; exact H
  clear H
  have H := H1
  clear H1
  simp only [Option.some.injEq, Prod.mk.injEq] at H
  obtain ⟨rfl, rfl, rfl, rfl⟩ := H
  go_enter Try.func71, Try.ntmps71
  try go_wp2_with (first | ((with_reducible refine gate_dst (N := 2) rfl ?_); (try (refine gate_guard (by rfl) ?_; dsimp only)); refine box_event ?hg (N := 2) ?hd (cs := #[.slice A0_0 l0_0.length c0_0, .slice A0_1 l0_1.length c0_1, .slice A0_2 l0_2.length c0_2]) (t := 35) ?hr ?_; (case hd => rfl); (case hg => rfl); (case hr => first | (go_simp; done) | (go_simp; rfl)); intro gb1018 hg w49 hbox hb; have n0_ := Aside0.mk (bt_ HB hb); have n1_ := Aside0.mk (hbox); have n2_ := gz_ hg HB; have n3_ := gz_ hg HB; clear HB; have HB := n0_; have BK1018 := n1_; have GW1018 := n2_; have GE1018 := n3_; clear n0_ n1_ n2_ n3_; clear hb hbox hg) | ((with_reducible refine gate_dst (N := 3) rfl ?_); (try (refine gate_guard (by rfl) ?_; dsimp only)); refine box_event ?hg (N := 3) ?hd (cs := #[.int .i64 a1_0, .int .i64 a1_1, .string a1_2, .string a1_3]) (t := 25) ?hr ?_; (case hd => rfl); (case hg => rfl); (case hr => first | (go_simp; done) | (go_simp; rfl)); intro gb1019 hg w50 hbox hb; have n0_ := Aside0.mk (lb_ BK1018 hb); have n1_ := Aside0.mk (below_step (bb1_ HB GE1018) hb); have n2_ := Aside0.mk (hbox); have n3_ := gy_ hg (bb1_ HB GE1018); have n4_ := gy_ hg (bb1_ HB GE1018); have n5_ := nl_ hg BK1018; have n6_ := ng_ hg BK1018; clear BK1018; clear HB; have BK1018 := n0_; have HB := n1_; have BK1019 := n2_; have GW1019 := n3_; have GE1019 := n4_; have NB1018_1019 := n5_; have NB1019_1018 := n6_; clear n0_ n1_ n2_ n3_ n4_ n5_ n6_; clear hb hbox hg) | ((with_reducible refine gate_dst (N := 4) rfl ?_); (try (refine gate_guard (by rfl) ?_; dsimp only)); refine box_event ?hg (N := 4) ?hd (cs := #[.slice none 0 0, .slice none 0 0, .slice none 0 0]) (t := 35) ?hr ?_; (case hd => rfl); (case hg => rfl); (case hr => first | (go_simp; done) | (go_simp; rfl)); intro gb1020 hg w51 hbox hb; have n0_ := Aside0.mk (lb_ BK1018 hb); have n1_ := Aside0.mk (lb_ BK1019 hb); have n2_ := Aside0.mk (below_step (bb2_ HB GE1018 GE1019) hb); have n3_ := Aside0.mk (hbox); have n4_ := gy_ hg (bb2_ HB GE1018 GE1019); have n5_ := gy_ hg (bb2_ HB GE1018 GE1019); have n6_ := nl_ hg BK1018; have n7_ := ng_ hg BK1018; have n8_ := nl_ hg BK1019; have n9_ := ng_ hg BK1019; clear BK1018; clear BK1019; clear HB; have BK1018 := n0_; have BK1019 := n1_; have HB := n2_; have BK1020 := n3_; have GW1020 := n4_; have GE1020 := n5_; have NB1018_1020 := n6_; have NB1020_1018 := n7_; have NB1019_1020 := n8_; have NB1020_1019 := n9_; clear n0_ n1_ n2_ n3_ n4_ n5_ n6_ n7_ n8_ n9_; clear hb hbox hg))
  have n0_ := Aside0.mk (blk_drew BK1018.out)
  have n1_ := Aside0.mk (blk_drew BK1019.out)
  have n2_ := Aside0.mk (blk_drew BK1020.out)
  have n3_ := Aside0.mk (below_drew1 HB.out)
  clear BK1018
  clear BK1019
  clear BK1020
  clear HB
  have BK1018 := n0_
  have BK1019 := n1_
  have BK1020 := n2_
  have HB := n3_
  clear n0_ n1_ n2_ n3_
  refine start_ (n := 9) (S := fun w' => w'.cell? ⟨gb1018, 0, none⟩ = some (.slice A0_0 l0_0.length c0_0) ∧ w'.cell? ⟨gb1018, 1, none⟩ = some (.slice A0_1 l0_1.length c0_1) ∧ w'.cell? ⟨gb1018, 2, none⟩ = some (.slice A0_2 l0_2.length c0_2) ∧ w'.cell? ⟨gb1019, 0, none⟩ = some (.int .i64 a1_0) ∧ w'.cell? ⟨gb1019, 1, none⟩ = some (.int .i64 a1_1) ∧ w'.cell? ⟨gb1019, 2, none⟩ = some (.string a1_2) ∧ w'.cell? ⟨gb1019, 3, none⟩ = some (.string a1_3)) (ds := []) #[false, false, false, false, false, false, false, false, false] (by kernel_rfl) rfl rfl ⟨(blk_cell BK1018.out 0).trans rfl, (blk_cell BK1018.out 1).trans rfl, (blk_cell BK1018.out 2).trans rfl, (blk_cell BK1019.out 0).trans rfl, (blk_cell BK1019.out 1).trans rfl, (blk_cell BK1019.out 2).trans rfl, (blk_cell BK1019.out 3).trans rfl⟩ (fun hHeld => ?_); refine with_tabW spec_unDo.tab1 spec_unDo.bits1 (fun HT_ HW_ => ?_)
  generalize w51.drew = w52 at BK1018 BK1019 BK1020 HB hHeld ⊢
  refine take_ (i := 0) (N := some 9) (v := ?_) (a' := ?_) #[true, false, false, false, false, false, false, false, false] rfl rfl (take_ofW HT_.out HW_.out (by kernel_rfl)) (fun _ _ _ h => h) (Or.inl ⟨by rfl, ?_⟩) hHeld ?_ ?_
  rotate_left
  ·rintro w' ⟨s0, s1, s2, s3, s4, s5, s6⟩
   go_simp
   with_reducible rfl
  rotate_left
  ·simp only [Act.put, sA_, sB_, sC_, i64_w, i32_w]
   rfl
  refine take_ (i := 2) (N := some 11) (v := ?_) (a' := ?_) #[true, false, true, false, false, false, false, false, false] rfl rfl (take_ofW HT_.out HW_.out (by kernel_rfl)) (fun _ _ _ h => h) (Or.inl ⟨by rfl, ?_⟩) hHeld ?_ ?_
  rotate_left
  ·rintro w' ⟨s0, s1, s2, s3, s4, s5, s6⟩
   go_simp
   with_reducible rfl
  rotate_left
  ·simp only [Act.put, sA_, sB_, sC_, i64_w, i32_w]
   rfl
  refine one_ (i := 1) (N := some 10) #[true, true, true, false, false, false, false, false, false] rfl rfl (one_of HT_.out (by kernel_rfl)) (by decide) (fun K hK => ?_)
  refine goes_ Try.func67 (by kernel_rfl) rfl #[.agg #[.slice A0_0 l0_0.length c0_0, .slice A0_1 l0_1.length c0_1, .slice A0_2 l0_2.length c0_2]] (by rfl) rfl rfl args_ ?_
  with_reducible refine (spec_unNow.calls k _ _ l0_0 _ _ l0_1 _ _ l0_2 t1021 _ ?side1 ?side2 ?side3 ?side4 ?side5 ?side6 A3.out).mono ?_
  (case side1 => exact cb_ HR0_0 HB)
  (case side2 => exact HC0_0.out)
  (case side3 => exact cb_ HR0_1 HB)
  (case side4 => exact HC0_1.out)
  (case side5 => exact cb_ HR0_2 HB)
  (case side6 => exact HC0_2.out)
  rintro e w53 ⟨v1022, rfl, ho0, hb⟩
  refine ⟨_, rfl, ?_⟩
  have n0_ := Aside0.mk (Kd.R_lower ho0 (below_size (bb3_ HB GE1018 GE1019 GE1020)))
  have n1_ := Aside0.mk (lb_ BK1018 hb)
  have n2_ := Aside0.mk (lb_ BK1019 hb)
  have n3_ := Aside0.mk (lb_ BK1020 hb)
  have n4_ := Aside0.mk (below_step (bb3_ HB GE1018 GE1019 GE1020) hb)
  clear BK1018
  clear BK1019
  clear BK1020
  clear HB
  have HO1023 := n0_
  have BK1018 := n1_
  have BK1019 := n2_
  have BK1020 := n3_
  have HB := n4_
  clear n0_ n1_ n2_ n3_ n4_
  (try clear hb)
  (try clear hb2)
  (try clear hk)
  (try clear hi)
  (try clear ho0)
  obtain ⟨Ao54, co54, eo54⟩ := Kd.R_slice HO1023.out
  (first | subst eo54 | (injection eo54 with f1_ f2_ f3_; have f4_ := f1_.symm; have f5_ := f3_.symm; clear f1_ f2_ f3_; subst f4_; subst f5_))
  refine hK.out _ _ ⟨(blk_cell BK1018.out 0).trans rfl, (blk_cell BK1018.out 1).trans rfl, (blk_cell BK1018.out 2).trans rfl, (blk_cell BK1019.out 0).trans rfl, (blk_cell BK1019.out 1).trans rfl, (blk_cell BK1019.out 2).trans rfl, (blk_cell BK1019.out 3).trans rfl⟩ (fun hHeld => ?_)
  clear hK K
  refine norm_ (a' := ?_) ?_ ?_
  rotate_left
  ·show Act.put _ (some 10) _ = _
   simp only [Act.put, sA_, sB_, sC_, i64_w, i32_w]
   rfl
  refine one_ (i := 3) (N := some 12) #[true, true, true, true, false, false, false, false, false] rfl rfl (one_of HT_.out (by kernel_rfl)) (by decide) (fun K hK => ?_)
  refine goes_ Try.func84 (by kernel_rfl) rfl #[.slice Ao54 t1021.length co54, .agg #[.int .i64 a1_0, .int .i64 a1_1, .string a1_2, .string a1_3]] (by rfl) rfl rfl args_ ?_
  with_reducible refine (spec_unMake.calls k _ _ t1021 a1_0 a1_1 a1_2 a1_3 t1024 false _ ?side1 ?side2 A4.out).mono ?_
  (case side1 => exact cr_ HO1023)
  (case side2 => exact (Kd.R_reads' HO1023.out).2.1)
  rintro e w55 ⟨v1025, rfl, ho0, hb⟩
  refine ⟨_, rfl, ?_⟩
  have n0_ := Aside0.mk (Kd.R_elder' (ra_ HO1023) (Kd.R_base ho0) hb)
  have n1_ := Aside0.mk (Kd.R_lower (Kd.R_new' ho0 (Kd.R_lt (ra_ HO1023))) (below_size (bb3_ HB GE1018 GE1019 GE1020)))
  have n2_ := Aside0.mk (lb_ BK1018 hb)
  have n3_ := Aside0.mk (lb_ BK1019 hb)
  have n4_ := Aside0.mk (lb_ BK1020 hb)
  have n5_ := Aside0.mk (below_step (bb3_ HB GE1018 GE1019 GE1020) hb)
  clear HO1023
  clear BK1018
  clear BK1019
  clear BK1020
  clear HB
  have HO1023 := n0_
  have HO1026 := n1_
  have BK1018 := n2_
  have BK1019 := n3_
  have BK1020 := n4_
  have HB := n5_
  clear n0_ n1_ n2_ n3_ n4_ n5_
  (try clear hb)
  (try clear hb2)
  (try clear hk)
  (try clear hi)
  (try clear ho0)
  refine hK.out _ _ ⟨(blk_cell BK1018.out 0).trans rfl, (blk_cell BK1018.out 1).trans rfl, (blk_cell BK1018.out 2).trans rfl, (blk_cell BK1019.out 0).trans rfl, (blk_cell BK1019.out 1).trans rfl, (blk_cell BK1019.out 2).trans rfl, (blk_cell BK1019.out 3).trans rfl⟩ (fun hHeld => ?_)
  clear hK K
  refine norm_ (a' := ?_) ?_ ?_
  rotate_left
  ·show Act.put _ (some 12) _ = _
   simp only [Act.put, sA_, sB_, sC_, i64_w, i32_w]
   rfl
  refine pu_ (i := 4) (N := some 8) (v := ?_) (a' := ?_) #[true, true, true, true, true, false, false, false, false] rfl rfl (Or.inl ⟨by rfl, ?_⟩) ?_ ?_
  rotate_left
  ·intro w'
   go_simp
   with_reducible rfl
  rotate_left
  ·simp only [Act.put, sA_, sB_, sC_, i64_w, i32_w]
   rfl
  refine pu_ (i := 5) (N := some 13) (v := ?_) (a' := ?_) #[true, true, true, true, true, true, false, false, false] rfl rfl (Or.inl ⟨by rfl, ?_⟩) ?_ ?_
  rotate_left
  ·intro w'
   go_simp
   with_reducible rfl
  rotate_left
  ·simp only [Act.put, sA_, sB_, sC_, i64_w, i32_w]
   rfl
  refine pu_ (i := 6) (N := some 14) (v := ?_) (a' := ?_) #[true, true, true, true, true, true, true, false, false] rfl rfl (Or.inl ⟨by rfl, ?_⟩) ?_ ?_
  rotate_left
  ·intro w'
   go_simp
   with_reducible rfl
  rotate_left
  ·simp only [Act.put, sA_, sB_, sC_, i64_w, i32_w]
   rfl
  refine pu_ (i := 7) (N := some 6) (v := ?_) (a' := ?_) #[true, true, true, true, true, true, true, true, false] rfl rfl (Or.inl ⟨by rfl, ?_⟩) ?_ ?_
  rotate_left
  ·intro w'
   go_simp
   with_reducible rfl
  rotate_left
  ·simp only [Act.put, sA_, sB_, sC_, i64_w, i32_w]
   rfl
  refine pu_ (i := 8) (N := some 7) (v := ?_) (a' := ?_) #[true, true, true, true, true, true, true, true, true] rfl rfl (Or.inl ⟨by rfl, ?_⟩) ?_ ?_
  rotate_left
  ·intro w'
   go_simp
   with_reducible rfl
  rotate_left
  ·simp only [Act.put, sA_, sB_, sC_, i64_w, i32_w]
   rfl
  refine done_ (done_of HT_.out (by kernel_rfl)) ?_
  have hnb56 := NB1020_1018.out
  have hnc56 := NB1018_1020.out
  have hnb57 := NB1020_1019.out
  have hnc57 := NB1019_1020.out
  have hcz58_0 := cz0_ BK1020
  have hcz58_1 := cz1_ BK1020
  have hcz58_2 := cz2_ BK1020
  have hfz58_0 := fz_ BK1020 0
  have hfz58_1 := fz_ BK1020 1
  have hfz58_2 := fz_ BK1020 2
  try go_wp2
  refine bodyPost_ret (results_ct rfl _ _ gb1020 35 #[.slice none 0 0, .slice none 0 0, .slice none 0 0] (0, 0) _ rfl (by (with_reducible repeat (first | apply lN_ | apply lD_ | apply lA_)); refine blk_put (cs := #[.slice none 0 0, .slice none 0 0, .slice none 0 0]) ?_ 2 _ rfl; (with_reducible repeat (first | apply lN_ | apply lD_ | apply lA_)); refine blk_put (cs := #[.slice none 0 0, .slice none 0 0, .slice none 0 0]) ?_ 1 _ rfl; (with_reducible repeat (first | apply lN_ | apply lD_ | apply lA_)); refine blk_put (cs := #[.slice none 0 0, .slice none 0 0, .slice none 0 0]) ?_ 0 _ rfl; (with_reducible repeat (first | apply lN_ | apply lD_ | apply lA_)); exact BK1020.out) Try.underlying35 rfl (by kernel_rfl)) rfl ?_
  exact ⟨_, _, _, by first | rfl | (simp [errW_none, errW_some] <;> rfl) | (simp [*, errW_none, errW_some] <;> rfl), by first | exact Kd.R_nil _ _ _ _ _ | exact Kd.N_nil _ _ _ _ _ | exact Kd.V_nil _ _ _ _ _ | exact Kd.Q_nil _ _ _ _ _ | exact Kd.S_nil _ _ _ _ _, by first | exact Kd.R_nil _ _ _ _ _ | exact Kd.N_nil _ _ _ _ _ | exact Kd.V_nil _ _ _ _ _ | exact Kd.Q_nil _ _ _ _ _ | exact Kd.S_nil _ _ _ _ _, by first | exact Kd.R_nil _ _ _ _ _ | exact Kd.N_nil _ _ _ _ _ | exact Kd.V_nil _ _ _ _ _ | exact Kd.Q_nil _ _ _ _ _ | exact Kd.S_nil _ _ _ _ _, bb3_ HB GE1018 GE1019 GE1020⟩

end Go.Proofs.Ytmmpnigbfiebbaa.PA
