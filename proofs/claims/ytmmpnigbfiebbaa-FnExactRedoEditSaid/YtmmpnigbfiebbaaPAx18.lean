-- Written by a program of this session (wip/tools/myprint.py). Not trusted: Lean checks it.
import Derived.Test.YtmmpnigbfiebbaaPAx0
import Derived.Test.YtmmpnigbfiebbaaPAx3
import Derived.Test.YtmmpnigbfiebbaaPAx5
import Derived.Test.YtmmpnigbfiebbaaPAx6
import Derived.Test.YtmmpnigbfiebbaaPAx8
namespace Go.Proofs.Ytmmpnigbfiebbaa.PA
open Go.RowKit Go.Proofs.YtmmpnigbfiebbaaW.PrintWords Go.Proofs.YtmmpnigbfiebbaaW.PrintLast Go.Proofs.YtmmpnigbfiebbaaW.PrintMore
attribute [local go_sem] max2_int min2_int max_two min_two max_three min_three max_four min_four   -- for this text's walks alone
set_option linter.unusedVariables false
set_option linter.unusedSimpArgs false

/-! ### spec_RedoEdit: function 37 -/
def spec_RedoEdit.f (k : Nat) (l0_0 : List ByteArray) (l0_1 : List (S25)) (l0_2 : List (S25)) : Option (List ByteArray × (List (S25)) × (List (S25)) × Bool) := (spec_unGood.f k l0_0 l0_1 l0_2).bind fun t610 => (if t610 = true then (if (l0_2.length : Int) = 0 then (some (([] : List ByteArray), ([] : List (S25)), ([] : List (S25)), false)) else ((some (([] : List (S25)) : List (S25))).bind fun y611 => (if y611.length + l0_1.length < 2932031007402 then ((some (y611 ++ l0_1 : List (S25))).bind fun y614 => (if 0 ≤ (wrap64 ((l0_2.length : Int) - 1)) then (if (wrap64 ((l0_2.length : Int) - 1)) < (l0_2.length : Int) then ((some (([(⟨(rd_T25 l0_2 (wrap64 ((l0_2.length : Int) - 1))).f0, (rd_T25 l0_2 (wrap64 ((l0_2.length : Int) - 1))).f1, (rd_T25 l0_2 (wrap64 ((l0_2.length : Int) - 1))).f2, (rd_T25 l0_2 (wrap64 ((l0_2.length : Int) - 1))).f3⟩ : S25)] : List (S25)) : List (S25))).bind fun y618 => (if y614.length + y618.length < 2932031007402 then (if (wrap64 ((l0_2.length : Int) - 1)) ≤ (l0_2.length : Int) then ((spec_unDesk.f l0_0 l0_1 l0_2 (y614 ++ y618) (l0_2.take ((wrap64 ((l0_2.length : Int) - 1)) : Int).toNat)).bind fun bt628 => (some (bt628.1, bt628.2.1, bt628.2.2, true))) else (none)) else (none))) else (none)) else (none))) else (none)))) else (some (([] : List ByteArray), ([] : List (S25)), ([] : List (S25)), false)))
theorem spec_RedoEdit.mono : ∀ a0 a1 a2 k, LeO (spec_RedoEdit.f k a0 a1 a2) (spec_RedoEdit.f (k + 1) a0 a1 a2) := by
 intro a0 a1 a2 k
 unfold spec_RedoEdit.f
 repeat' first
   | (with_reducible exact spec_unGood.mono _ _ _ _)
   | (with_reducible exact LeO.refl _)
   | (with_reducible exact LeO.none _)
   | (with_reducible refine LeO.ite ?_ ?_)
   | (with_reducible refine LeO.bind ?_ (fun _ => ?_))
   | exact LeO.none _
   | refine LeO.ite ?_ ?_
   | refine LeO.bind ?_ (fun _ => ?_)
def spec_RedoEdit.T4 : Bool × List (List Nat × List Nat) := (true, [([], []), ([], []), ([], []), ([2], [2]), ([1, 3], [1, 3]), ([], []), ([5], [5]), ([], []), ([7], [7]), ([6, 8], [6, 8]), ([9], [9]), ([10], [10]), ([4, 11, 4], [4, 11]), ([], []), ([13], [13]), ([], []), ([15], [15]), ([14, 16], [14, 16]), ([0, 12, 17, 12], [0, 12, 17]), ([18, 18, 0, 1, 2, 3, 4, 5, 6, 7, 8, 9, 10, 11, 12, 13, 14, 15, 16, 17, 18], [18]), ([19, 0, 1, 2, 3, 4, 5, 6, 7, 8, 9, 10, 11, 12, 13, 14, 15, 16, 17, 18, 19], [])])
def spec_RedoEdit.B4 : List Nat := [0, 0, 0, 4, 14, 0, 32, 0, 128, 480, 992, 2016, 4094, 0, 8192, 0, 32768, 122880, 262143, 524287, 1048575]
theorem spec_RedoEdit.tab4 : rtab .any (opsOf Try.f37 4) = spec_RedoEdit.T4 := by kernel_rfl
theorem spec_RedoEdit.bits4 : waitsOk spec_RedoEdit.T4.2 spec_RedoEdit.B4 = true := by kernel_rfl
set_option maxHeartbeats 8000000 in
set_option maxRecDepth 100000 in
theorem spec_RedoEdit.calls (k : Nat) (A0_0 : Option Addr) (c0_0 : Nat) (l0_0 : List ByteArray) (A0_1 : Option Addr) (c0_1 : Nat) (l0_1 : List (S25)) (A0_2 : Option Addr) (c0_2 : Nat) (l0_2 : List (S25)) (r1 : List ByteArray) (r2 : List (S25)) (r3 : List (S25)) (r4 : Bool) (w : World) (hr0_0 : Kd.C Kd.string w A0_0 l0_0.length l0_0) (hc0_0 : l0_0.length ≤ c0_0) (hr0_1 : Kd.C k25 w A0_1 l0_1.length l0_1) (hc0_1 : l0_1.length ≤ c0_1) (hr0_2 : Kd.C k25 w A0_2 l0_2.length l0_2) (hc0_2 : l0_2.length ≤ c0_2) (h : spec_RedoEdit.f k l0_0 l0_1 l0_2 = some (r1, r2, r3, r4)) :
  Calls Try.prog 37 #[.agg #[.slice A0_0 l0_0.length c0_0, .slice A0_1 l0_1.length c0_1, .slice A0_2 l0_2.length c0_2]] w fun e w' => ∃ v0_ v1_ v2_ : Value, e = .returned (.tuple #[.agg #[v0_, v1_, v2_], .bool r4]) ∧ Kd.R Kd.string 9 w' w.heap.size (fun _ => True) v0_ r1 ∧ Kd.R k25 25 w' w.heap.size (fun k_ => some k_ ≠ (v2_ : Value).ownBlock) v1_ r2 ∧ Kd.R k25 25 w' w.heap.size (fun k_ => some k_ ≠ (v1_ : Value).ownBlock) v2_ r3 ∧ Below w.heap.size w w' := by
 have hu35 := Try.underlying35
 have hu25 := Try.underlying25
 have HR0_0 := Aside0.mk hr0_0
 have HC0_0 := Aside0.mk hc0_0
 clear hr0_0 hc0_0
 have HR0_1 := Aside0.mk hr0_1
 have HC0_1 := Aside0.mk hc0_1
 clear hr0_1 hc0_1
 have HR0_2 := Aside0.mk hr0_2
 have HC0_2 := Aside0.mk hc0_2
 clear hr0_2 hc0_2
 have HB := Aside0.mk (Below.refl w.heap.size w)
 have H : ((spec_unGood.f k l0_0 l0_1 l0_2).bind fun t610 => (if t610 = true then (if (l0_2.length : Int) = 0 then (some (([] : List ByteArray), ([] : List (S25)), ([] : List (S25)), false)) else ((some (([] : List (S25)) : List (S25))).bind fun y611 => (if y611.length + l0_1.length < 2932031007402 then ((some (y611 ++ l0_1 : List (S25))).bind fun y614 => (if 0 ≤ (wrap64 ((l0_2.length : Int) - 1)) then (if (wrap64 ((l0_2.length : Int) - 1)) < (l0_2.length : Int) then ((some (([(⟨(rd_T25 l0_2 (wrap64 ((l0_2.length : Int) - 1))).f0, (rd_T25 l0_2 (wrap64 ((l0_2.length : Int) - 1))).f1, (rd_T25 l0_2 (wrap64 ((l0_2.length : Int) - 1))).f2, (rd_T25 l0_2 (wrap64 ((l0_2.length : Int) - 1))).f3⟩ : S25)] : List (S25)) : List (S25))).bind fun y618 => (if y614.length + y618.length < 2932031007402 then (if (wrap64 ((l0_2.length : Int) - 1)) ≤ (l0_2.length : Int) then ((spec_unDesk.f l0_0 l0_1 l0_2 (y614 ++ y618) (l0_2.take ((wrap64 ((l0_2.length : Int) - 1)) : Int).toNat)).bind fun bt628 => (some (bt628.1, bt628.2.1, bt628.2.2, true))) else (none)) else (none))) else (none)) else (none))) else (none)))) else (some (([] : List ByteArray), ([] : List (S25)), ([] : List (S25)), false)))) = some (r1, r2, r3, r4) := h
 clear h
 replace H := Option.bind_eq_some_iff.mp H
 obtain ⟨t610, A20, H⟩ := H
 try dsimp only at H
 have A2 := Aside0.mk A20
 clear A20
 by_cases c3 : t610 = true
 ·subst c3
  have H1 : (if (l0_2.length : Int) = 0 then (some (([] : List ByteArray), ([] : List (S25)), ([] : List (S25)), false)) else ((some (([] : List (S25)) : List (S25))).bind fun y611 => (if y611.length + l0_1.length < 2932031007402 then ((some (y611 ++ l0_1 : List (S25))).bind fun y614 => (if 0 ≤ (wrap64 ((l0_2.length : Int) - 1)) then (if (wrap64 ((l0_2.length : Int) - 1)) < (l0_2.length : Int) then ((some (([(⟨(rd_T25 l0_2 (wrap64 ((l0_2.length : Int) - 1))).f0, (rd_T25 l0_2 (wrap64 ((l0_2.length : Int) - 1))).f1, (rd_T25 l0_2 (wrap64 ((l0_2.length : Int) - 1))).f2, (rd_T25 l0_2 (wrap64 ((l0_2.length : Int) - 1))).f3⟩ : S25)] : List (S25)) : List (S25))).bind fun y618 => (if y614.length + y618.length < 2932031007402 then (if (wrap64 ((l0_2.length : Int) - 1)) ≤ (l0_2.length : Int) then ((spec_unDesk.f l0_0 l0_1 l0_2 (y614 ++ y618) (l0_2.take ((wrap64 ((l0_2.length : Int) - 1)) : Int).toNat)).bind fun bt628 => (some (bt628.1, bt628.2.1, bt628.2.2, true))) else (none)) else (none))) else (none)) else (none))) else (none)))) = some (r1, r2, r3, r4) := by rw [if_pos rfl] at H; exact H
  clear H
  have H := H1
  clear H1
  by_cases c4 : (l0_2.length : Int) = 0
  ·rw [if_pos c4] at H
   have c4b0 : ((l0_2.length : Int) == 0) = true := beq_iff_eq.mpr c4
   have c4b1 : ((l0_2.length : Int) != 0) = false := bne_eq_false_iff_eq.mpr c4
   clear c4
   simp only [Option.some.injEq, Prod.mk.injEq] at H
   obtain ⟨rfl, rfl, rfl, rfl⟩ := H
   go_enter Try.func37, Try.ntmps37
   go_wp2_with (first | ((with_reducible refine gate_dst (N := 1) rfl ?_); refine box_event ?hg (N := 1) ?hd (cs := #[.slice A0_0 l0_0.length c0_0, .slice A0_1 l0_1.length c0_1, .slice A0_2 l0_2.length c0_2]) (t := 35) ?hr ?_; (case hd => rfl); (case hg => rfl); (case hr => first | (go_simp; done) | (go_simp; rfl)); intro gb608 hg w5 hbox hb; have n0_ := Aside0.mk (bt_ HB hb); have n1_ := Aside0.mk (hbox); have n2_ := Aside0.mk ((by rw [hg]; exact (bz_ HB) : w.heap.size ≤ gb608)); have n3_ := Aside0.mk ((by rw [hg]; exact (bz_ HB) : w.heap.size ≤ gb608)); clear HB; have HB := n0_; have BK608 := n1_; have GW608 := n2_; have GE608 := n3_; clear n0_ n1_ n2_ n3_; clear hb hbox hg) | ((with_reducible refine gate_dst (N := 2) rfl ?_); refine box_event ?hg (N := 2) ?hd (cs := #[.slice none 0 0, .slice none 0 0, .slice none 0 0]) (t := 35) ?hr ?_; (case hd => rfl); (case hg => rfl); (case hr => first | (go_simp; done) | (go_simp; rfl)); intro gb609 hg w6 hbox hb; have n0_ := Aside0.mk (lb_ BK608 hb); have n1_ := Aside0.mk (below_step (bb1_ HB GE608) hb); have n2_ := Aside0.mk (hbox); have n3_ := Aside0.mk ((by rw [hg]; exact (below_size (bb1_ HB GE608)) : w.heap.size ≤ gb609)); have n4_ := Aside0.mk ((by rw [hg]; exact (below_size (bb1_ HB GE608)) : w.heap.size ≤ gb609)); have n5_ := Aside0.mk ((by rw [hg]; exact Nat.ne_of_lt (blk_lt (g := gb608) (o := .cells #[.slice A0_0 l0_0.length c0_0, .slice A0_1 l0_1.length c0_1, .slice A0_2 l0_2.length c0_2] 35 (0, 0)) (la_ BK608)) : gb608 ≠ gb609)); have n6_ := Aside0.mk ((by rw [hg]; exact Nat.ne_of_gt (blk_lt (g := gb608) (o := .cells #[.slice A0_0 l0_0.length c0_0, .slice A0_1 l0_1.length c0_1, .slice A0_2 l0_2.length c0_2] 35 (0, 0)) (la_ BK608)) : gb609 ≠ gb608)); clear BK608; clear HB; have BK608 := n0_; have HB := n1_; have BK609 := n2_; have GW609 := n3_; have GE609 := n4_; have NB608_609 := n5_; have NB609_608 := n6_; clear n0_ n1_ n2_ n3_ n4_ n5_ n6_; clear hb hbox hg; have hnb7 := NB608_609.out; have hnc7 := NB609_608.out; have hcz8_0 : w6.cell? ⟨gb608, 0, none⟩ = some (.slice A0_0 l0_0.length c0_0) := (blk_cell BK608.out 0).trans rfl; have hcz8_1 : w6.cell? ⟨gb608, 1, none⟩ = some (.slice A0_1 l0_1.length c0_1) := (blk_cell BK608.out 1).trans rfl; have hcz8_2 : w6.cell? ⟨gb608, 2, none⟩ = some (.slice A0_2 l0_2.length c0_2) := (blk_cell BK608.out 2).trans rfl; have hfz8_0 := blk_frozen BK608.out 0; have hfz8_1 := blk_frozen BK608.out 1; have hfz8_2 := blk_frozen BK608.out 2) | ((with_reducible refine gate_callee (f := 59) rfl ?_); refine goesL_ (some 9) rfl rfl Try.func59 (by kernel_rfl) rfl #[.agg #[.slice A0_0 l0_0.length c0_0, .slice A0_1 l0_1.length c0_1, .slice A0_2 l0_2.length c0_2]] rfl args_ ?_; (with_reducible refine (spec_unGood.calls k _ _ l0_0 _ _ l0_1 _ _ l0_2 true _ ?side1 ?side2 ?side3 ?side4 ?side5 ?side6 A2.out).mono ?_); (case side1 => repeat (first | exact (Kd.C_below HR0_0.out HB.out) | (with_reducible first | apply cA_ | apply cN_ | apply cD_))); (case side2 => exact HC0_0.out); (case side3 => repeat (first | exact (Kd.C_below HR0_1.out HB.out) | (with_reducible first | apply cA_ | apply cN_ | apply cD_))); (case side4 => exact HC0_1.out); (case side5 => repeat (first | exact (Kd.C_below HR0_2.out HB.out) | (with_reducible first | apply cA_ | apply cN_ | apply cD_))); (case side6 => exact HC0_2.out); rintro e w9 ⟨rfl, hb⟩; refine ⟨_, rfl, ?_⟩; have n0_ := Aside0.mk (lb_ BK608 hb); have n1_ := Aside0.mk (lb_ BK609 hb); have n2_ := Aside0.mk (below_step (bb2_ HB GE608 GE609) hb); clear BK608; clear BK609; clear HB; have BK608 := n0_; have BK609 := n1_; have HB := n2_; clear n0_ n1_ n2_; (try clear hb); (try clear hb2); (try clear hk); (try clear hi); have hcz10_0 : w9.cell? ⟨gb609, 0, none⟩ = some (.slice none 0 0) := (blk_cell BK609.out 0).trans rfl; have hcz10_1 : w9.cell? ⟨gb609, 1, none⟩ = some (.slice none 0 0) := (blk_cell BK609.out 1).trans rfl; have hcz10_2 : w9.cell? ⟨gb609, 2, none⟩ = some (.slice none 0 0) := (blk_cell BK609.out 2).trans rfl; have hfz10_0 := blk_frozen BK609.out 0; have hfz10_1 := blk_frozen BK609.out 1; have hfz10_2 := blk_frozen BK609.out 2))
   refine bodyPost_ret (results_ct rfl _ _ gb609 35 #[.slice none 0 0, .slice none 0 0, .slice none 0 0] (0, 0) _ rfl (by (with_reducible repeat (first | apply lN_ | apply lD_ | apply lA_)); refine blk_put (cs := #[.slice none 0 0, .slice none 0 0, .slice none 0 0]) ?_ 2 _ rfl; (with_reducible repeat (first | apply lN_ | apply lD_ | apply lA_)); refine blk_put (cs := #[.slice none 0 0, .slice none 0 0, .slice none 0 0]) ?_ 1 _ rfl; (with_reducible repeat (first | apply lN_ | apply lD_ | apply lA_)); refine blk_put (cs := #[.slice none 0 0, .slice none 0 0, .slice none 0 0]) ?_ 0 _ rfl; (with_reducible repeat (first | apply lN_ | apply lD_ | apply lA_)); exact BK609.out) Try.underlying35 rfl (by kernel_rfl)) rfl ?_
   exact ⟨_, _, _, by first | rfl | (simp [errW_none, errW_some] <;> rfl) | (simp [*, errW_none, errW_some] <;> rfl), by first | exact Kd.R_nil _ _ _ _ _ | exact Kd.N_nil _ _ _ _ _ | exact Kd.V_nil _ _ _ _ _ | exact Kd.Q_nil _ _ _ _ _ | exact Kd.S_nil _ _ _ _ _, by first | exact Kd.R_nil _ _ _ _ _ | exact Kd.N_nil _ _ _ _ _ | exact Kd.V_nil _ _ _ _ _ | exact Kd.Q_nil _ _ _ _ _ | exact Kd.S_nil _ _ _ _ _, by first | exact Kd.R_nil _ _ _ _ _ | exact Kd.N_nil _ _ _ _ _ | exact Kd.V_nil _ _ _ _ _ | exact Kd.Q_nil _ _ _ _ _ | exact Kd.S_nil _ _ _ _ _, bb2_ HB GE608 GE609⟩
  ·rw [if_neg c4] at H
   have c4b0 : ((l0_2.length : Int) == 0) = false := beq_eq_false_iff_ne.mpr c4
   have c4b1 : ((l0_2.length : Int) != 0) = true := bne_iff_ne.mpr c4
   have c4b2 : ¬ (l0_2 = []) := fun h_ => c4 (by rw [h_]; rfl)
   obtain ⟨y611, hy611⟩ : ∃ y_ : List (S25), y_ = (([] : List (S25))) := ⟨_, rfl⟩
   replace H : (if y611.length + l0_1.length < 2932031007402 then ((some (y611 ++ l0_1 : List (S25))).bind fun y614 => (if 0 ≤ (wrap64 ((l0_2.length : Int) - 1)) then (if (wrap64 ((l0_2.length : Int) - 1)) < (l0_2.length : Int) then ((some (([(⟨(rd_T25 l0_2 (wrap64 ((l0_2.length : Int) - 1))).f0, (rd_T25 l0_2 (wrap64 ((l0_2.length : Int) - 1))).f1, (rd_T25 l0_2 (wrap64 ((l0_2.length : Int) - 1))).f2, (rd_T25 l0_2 (wrap64 ((l0_2.length : Int) - 1))).f3⟩ : S25)] : List (S25)) : List (S25))).bind fun y618 => (if y614.length + y618.length < 2932031007402 then (if (wrap64 ((l0_2.length : Int) - 1)) ≤ (l0_2.length : Int) then ((spec_unDesk.f l0_0 l0_1 l0_2 (y614 ++ y618) (l0_2.take ((wrap64 ((l0_2.length : Int) - 1)) : Int).toNat)).bind fun bt628 => (some (bt628.1, bt628.2.1, bt628.2.2, true))) else (none)) else (none))) else (none)) else (none))) else (none)) = some (r1, r2, r3, r4) := by first | (rw [hy611]; with_reducible exact H) | (have H2_ := (Option.bind_some _ _).symm.trans H; rw [hy611]; with_reducible exact H2_) | (have H2_ := (Option.bind_some _ _).symm.trans H; with_reducible exact H2_) | with_reducible exact H | (rw [hy611]; exact H) | exact H
   have Ny611 := Aside0.mk hy611
   clear hy611
   by_cases c11 : y611.length + l0_1.length < 2932031007402
   ·rw [if_pos c11] at H
    have LMc11 := Aside0.mk c11
    clear c11
    obtain ⟨y614, hy614⟩ : ∃ y_ : List (S25), y_ = (y611 ++ l0_1) := ⟨_, rfl⟩
    replace H : (if 0 ≤ (wrap64 ((l0_2.length : Int) - 1)) then (if (wrap64 ((l0_2.length : Int) - 1)) < (l0_2.length : Int) then ((some (([(⟨(rd_T25 l0_2 (wrap64 ((l0_2.length : Int) - 1))).f0, (rd_T25 l0_2 (wrap64 ((l0_2.length : Int) - 1))).f1, (rd_T25 l0_2 (wrap64 ((l0_2.length : Int) - 1))).f2, (rd_T25 l0_2 (wrap64 ((l0_2.length : Int) - 1))).f3⟩ : S25)] : List (S25)) : List (S25))).bind fun y618 => (if y614.length + y618.length < 2932031007402 then (if (wrap64 ((l0_2.length : Int) - 1)) ≤ (l0_2.length : Int) then ((spec_unDesk.f l0_0 l0_1 l0_2 (y614 ++ y618) (l0_2.take ((wrap64 ((l0_2.length : Int) - 1)) : Int).toNat)).bind fun bt628 => (some (bt628.1, bt628.2.1, bt628.2.2, true))) else (none)) else (none))) else (none)) else (none)) = some (r1, r2, r3, r4) := by first | (rw [hy614]; with_reducible exact H) | (have H2_ := (Option.bind_some _ _).symm.trans H; rw [hy614]; with_reducible exact H2_) | (have H2_ := (Option.bind_some _ _).symm.trans H; with_reducible exact H2_) | with_reducible exact H | (rw [hy614]; exact H) | exact H
    have Ny614 := Aside0.mk hy614
    clear hy614
    obtain ⟨ji12, hji12⟩ : ∃ j_ : Int, (wrap64 ((l0_2.length : Int) - 1)) = j_ := ⟨_, rfl⟩
    replace H : (if 0 ≤ (ji12) then (if (ji12) < (l0_2.length : Int) then ((some (([(⟨(rd_T25 l0_2 (ji12)).f0, (rd_T25 l0_2 (ji12)).f1, (rd_T25 l0_2 (ji12)).f2, (rd_T25 l0_2 (ji12)).f3⟩ : S25)] : List (S25)) : List (S25))).bind fun y618 => (if y614.length + y618.length < 2932031007402 then (if (ji12) ≤ (l0_2.length : Int) then ((spec_unDesk.f l0_0 l0_1 l0_2 (y614 ++ y618) (l0_2.take ((ji12) : Int).toNat)).bind fun bt628 => (some (bt628.1, bt628.2.1, bt628.2.2, true))) else (none)) else (none))) else (none)) else (none)) = some (r1, r2, r3, r4) := by first | (rw [hji12] at H; exact H) | (simp only [hji12] at H ⊢; exact H)
    (try rw [hji12] at A2)
    have hji12w : (IntKind.i64.wrap ((l0_2.length : Int) - 1)) = ji12 := (i64_w _).trans hji12
    by_cases c13 : 0 ≤ (ji12)
    ·rw [if_pos c13] at H
     have c13b0 : decide (0 ≤ (ji12)) = true := decide_eq_true c13
     clear c13
     by_cases c14 : (ji12) < (l0_2.length : Int)
     ·rw [if_pos c14] at H
      have c14b0 : decide ((ji12) < (l0_2.length : Int)) = true := decide_eq_true c14
      clear c14
      obtain ⟨y618, hy618⟩ : ∃ y_ : List (S25), y_ = (([(⟨(rd_T25 l0_2 (ji12)).f0, (rd_T25 l0_2 (ji12)).f1, (rd_T25 l0_2 (ji12)).f2, (rd_T25 l0_2 (ji12)).f3⟩ : S25)] : List (S25))) := ⟨_, rfl⟩
      replace H : (if y614.length + y618.length < 2932031007402 then (if (ji12) ≤ (l0_2.length : Int) then ((spec_unDesk.f l0_0 l0_1 l0_2 (y614 ++ y618) (l0_2.take ((ji12) : Int).toNat)).bind fun bt628 => (some (bt628.1, bt628.2.1, bt628.2.2, true))) else (none)) else (none)) = some (r1, r2, r3, r4) := by first | (rw [hy618]; with_reducible exact H) | (have H2_ := (Option.bind_some _ _).symm.trans H; rw [hy618]; with_reducible exact H2_) | (have H2_ := (Option.bind_some _ _).symm.trans H; with_reducible exact H2_) | with_reducible exact H | (rw [hy618]; exact H) | exact H
      have Ny618 := Aside0.mk hy618
      clear hy618
      by_cases c15 : y614.length + y618.length < 2932031007402
      ·rw [if_pos c15] at H
       have LMc15 := Aside0.mk c15
       clear c15
       obtain ⟨y621, hy621⟩ : ∃ y_ : List (S25), y_ = (y614 ++ y618) := ⟨_, rfl⟩
       replace H : (if (ji12) ≤ (l0_2.length : Int) then ((spec_unDesk.f l0_0 l0_1 l0_2 y621 (l0_2.take ((ji12) : Int).toNat)).bind fun bt628 => (some (bt628.1, bt628.2.1, bt628.2.2, true))) else (none)) = some (r1, r2, r3, r4) := by first | (rw [hy621]; with_reducible exact H) | (have H2_ := (Option.bind_some _ _).symm.trans H; rw [hy621]; with_reducible exact H2_) | (have H2_ := (Option.bind_some _ _).symm.trans H; with_reducible exact H2_) | with_reducible exact H | (rw [hy621]; exact H) | exact H
       have Ny621 := Aside0.mk hy621
       clear hy621
       have c16b0 := eq_true (of_decide_eq_true (by first | (with_reducible assumption) | assumption) : 0 ≤ (ji12))
       by_cases c17 : (ji12) ≤ (l0_2.length : Int)
       ·rw [if_pos c17] at H
        have c17b0 := eq_true c17
        have c17b1 : decide ((ji12) ≤ (l0_2.length : Int)) = true := decide_eq_true c17
        clear c17
        obtain ⟨y624, hy624⟩ : ∃ y_ : List (S25), y_ = (l0_2.take ((ji12) : Int).toNat) := ⟨_, rfl⟩
        replace H : ((spec_unDesk.f l0_0 l0_1 l0_2 y621 y624).bind fun bt628 => (some (bt628.1, bt628.2.1, bt628.2.2, true))) = some (r1, r2, r3, r4) := by first | (rw [hy624]; with_reducible exact H) | (have H2_ := (Option.bind_some _ _).symm.trans H; rw [hy624]; with_reducible exact H2_) | (have H2_ := (Option.bind_some _ _).symm.trans H; with_reducible exact H2_) | with_reducible exact H | (rw [hy624]; exact H) | exact H
        have Ny624 := Aside0.mk hy624
        clear hy624
        replace H := Option.bind_eq_some_iff.mp H
        obtain ⟨⟨t628, t631, t634⟩, A180, H⟩ := H
        try dsimp only at H
        have A18 := Aside0.mk A180
        clear A180
        simp only [Option.some.injEq, Prod.mk.injEq] at H
        obtain ⟨rfl, rfl, rfl, rfl⟩ := H
        go_enter Try.func37, Try.ntmps37
        try go_wp2_with (first | ((with_reducible refine gate_dst (N := 1) rfl ?_); refine box_event ?hg (N := 1) ?hd (cs := #[.slice A0_0 l0_0.length c0_0, .slice A0_1 l0_1.length c0_1, .slice A0_2 l0_2.length c0_2]) (t := 35) ?hr ?_; (case hd => rfl); (case hg => rfl); (case hr => first | (go_simp; done) | (go_simp; rfl)); intro gb608 hg w19 hbox hb; have n0_ := Aside0.mk (bt_ HB hb); have n1_ := Aside0.mk (hbox); have n2_ := Aside0.mk ((by rw [hg]; exact (bz_ HB) : w.heap.size ≤ gb608)); have n3_ := Aside0.mk ((by rw [hg]; exact (bz_ HB) : w.heap.size ≤ gb608)); clear HB; have HB := n0_; have BK608 := n1_; have GW608 := n2_; have GE608 := n3_; clear n0_ n1_ n2_ n3_; clear hb hbox hg) | ((with_reducible refine gate_dst (N := 2) rfl ?_); refine box_event ?hg (N := 2) ?hd (cs := #[.slice none 0 0, .slice none 0 0, .slice none 0 0]) (t := 35) ?hr ?_; (case hd => rfl); (case hg => rfl); (case hr => first | (go_simp; done) | (go_simp; rfl)); intro gb609 hg w20 hbox hb; have n0_ := Aside0.mk (lb_ BK608 hb); have n1_ := Aside0.mk (below_step (bb1_ HB GE608) hb); have n2_ := Aside0.mk (hbox); have n3_ := Aside0.mk ((by rw [hg]; exact (below_size (bb1_ HB GE608)) : w.heap.size ≤ gb609)); have n4_ := Aside0.mk ((by rw [hg]; exact (below_size (bb1_ HB GE608)) : w.heap.size ≤ gb609)); have n5_ := Aside0.mk ((by rw [hg]; exact Nat.ne_of_lt (blk_lt (g := gb608) (o := .cells #[.slice A0_0 l0_0.length c0_0, .slice A0_1 l0_1.length c0_1, .slice A0_2 l0_2.length c0_2] 35 (0, 0)) (la_ BK608)) : gb608 ≠ gb609)); have n6_ := Aside0.mk ((by rw [hg]; exact Nat.ne_of_gt (blk_lt (g := gb608) (o := .cells #[.slice A0_0 l0_0.length c0_0, .slice A0_1 l0_1.length c0_1, .slice A0_2 l0_2.length c0_2] 35 (0, 0)) (la_ BK608)) : gb609 ≠ gb608)); clear BK608; clear HB; have BK608 := n0_; have HB := n1_; have BK609 := n2_; have GW609 := n3_; have GE609 := n4_; have NB608_609 := n5_; have NB609_608 := n6_; clear n0_ n1_ n2_ n3_ n4_ n5_ n6_; clear hb hbox hg; have hnb21 := NB608_609.out; have hnc21 := NB609_608.out; have hcz22_0 : w20.cell? ⟨gb608, 0, none⟩ = some (.slice A0_0 l0_0.length c0_0) := (blk_cell BK608.out 0).trans rfl; have hcz22_1 : w20.cell? ⟨gb608, 1, none⟩ = some (.slice A0_1 l0_1.length c0_1) := (blk_cell BK608.out 1).trans rfl; have hcz22_2 : w20.cell? ⟨gb608, 2, none⟩ = some (.slice A0_2 l0_2.length c0_2) := (blk_cell BK608.out 2).trans rfl; have hfz22_0 := blk_frozen BK608.out 0; have hfz22_1 := blk_frozen BK608.out 1; have hfz22_2 := blk_frozen BK608.out 2) | ((with_reducible refine gate_callee (f := 59) rfl ?_); refine goesL_ (some 9) rfl rfl Try.func59 (by kernel_rfl) rfl #[.agg #[.slice A0_0 l0_0.length c0_0, .slice A0_1 l0_1.length c0_1, .slice A0_2 l0_2.length c0_2]] rfl args_ ?_; (with_reducible refine (spec_unGood.calls k _ _ l0_0 _ _ l0_1 _ _ l0_2 true _ ?side1 ?side2 ?side3 ?side4 ?side5 ?side6 A2.out).mono ?_); (case side1 => repeat (first | exact (Kd.C_below HR0_0.out HB.out) | (with_reducible first | apply cA_ | apply cN_ | apply cD_))); (case side2 => exact HC0_0.out); (case side3 => repeat (first | exact (Kd.C_below HR0_1.out HB.out) | (with_reducible first | apply cA_ | apply cN_ | apply cD_))); (case side4 => exact HC0_1.out); (case side5 => repeat (first | exact (Kd.C_below HR0_2.out HB.out) | (with_reducible first | apply cA_ | apply cN_ | apply cD_))); (case side6 => exact HC0_2.out); rintro e w23 ⟨rfl, hb⟩; refine ⟨_, rfl, ?_⟩; have n0_ := Aside0.mk (lb_ BK608 hb); have n1_ := Aside0.mk (lb_ BK609 hb); have n2_ := Aside0.mk (below_step (bb2_ HB GE608 GE609) hb); clear BK608; clear BK609; clear HB; have BK608 := n0_; have BK609 := n1_; have HB := n2_; clear n0_ n1_ n2_; (try clear hb); (try clear hb2); (try clear hk); (try clear hi)))
        have n0_ := Aside0.mk (blk_drew BK608.out)
        have n1_ := Aside0.mk (blk_drew BK609.out)
        have n2_ := Aside0.mk (below_drew1 HB.out)
        clear BK608
        clear BK609
        clear HB
        have BK608 := n0_
        have BK609 := n1_
        have HB := n2_
        clear n0_ n1_ n2_
        have p617 : 0 ≤ ((ji12) : Int) := of_decide_eq_true (by first | (with_reducible assumption) | assumption)
        have q617 : (ji12) < (l0_2.length : Int) := of_decide_eq_true (by first | (with_reducible assumption) | assumption)
        obtain ⟨ad617, e617, hx617_0, hx617_1, hx617_2, hx617_3⟩ := at_T25 HR0_2.out (ji12) p617 q617
        have hw617_3 := hx617_3
        have hw617_2 := hx617_2
        have hw617_1 := hx617_1
        have hw617_0 := hx617_0
        cases e617
        replace hx617_0 := (HB.out.cell (World.block_lt_of_cell? w _ hx617_0)).trans hx617_0
        replace hx617_1 := (HB.out.cell (World.block_lt_of_cell? w _ hx617_1)).trans hx617_1
        replace hx617_2 := (HB.out.cell (World.block_lt_of_cell? w _ hx617_2)).trans hx617_2
        replace hx617_3 := (HB.out.cell (World.block_lt_of_cell? w _ hx617_3)).trans hx617_3
        replace p617 := eq_true p617
        replace q617 := eq_true q617
        have q25 : ((ji12) : Int) ≤ ((l0_2.length : Int) : Int) := of_decide_eq_true (by first | (with_reducible assumption) | assumption)
        obtain ⟨i025, hi025, _, hsz25, _⟩ := info_parts info25
        have hroom25 : l0_2.length ≤ c0_2 := HC0_2.out
        have hC25 : Kd.C k25 _ (some ad617) l0_2.length l0_2 := HR0_2.out
        have hcut25 := cut_to (P := Try.prog) 33 25 .i64 Try.underlying33 hi025 (some ad617) l0_2.length c0_2 (ji12) (of_decide_eq_true (by first | (with_reducible assumption) | assumption)) q25 hroom25
        have hr25 := Kd.C_take (m := ((ji12) : Int).toNat) hC25 (by omega)
        have hy25 : y624.length = ((ji12) : Int).toNat := (by rw [Ny624.out, List.length_take]; omega)
        rw [← Ny624.out] at hr25
        rw [← hy25] at hcut25
        have HR627 := Aside0.mk hr25
        have HC627 := Aside0.mk (show y624.length ≤ c0_2 from by omega)
        clear hr25 hC25 hroom25 hi025 hsz25
        have KY25 := Aside0.mk hy25
        clear hy25
        replace q25 := eq_true q25
        refine start_ (n := 21) (S := fun w' => w'.cell? ⟨gb608, 0, none⟩ = some (.slice A0_0 l0_0.length c0_0) ∧ w'.cell? ⟨gb608, 1, none⟩ = some (.slice A0_1 l0_1.length c0_1) ∧ w'.cell? ⟨gb608, 2, none⟩ = some (.slice (some ad617) l0_2.length c0_2) ∧ w'.cell? (ad617.add (((ji12)).toNat * 4)) = some (.int .i64 ((rd_T25 l0_2 (ji12)).f0)) ∧ w'.cell? ⟨(ad617.add (((ji12)).toNat * 4)).block, (ad617.add (((ji12)).toNat * 4)).off + 1, none⟩ = some (.int .i64 ((rd_T25 l0_2 (ji12)).f1)) ∧ w'.cell? ⟨(ad617.add (((ji12)).toNat * 4)).block, (ad617.add (((ji12)).toNat * 4)).off + 2, none⟩ = some (.string ((rd_T25 l0_2 (ji12)).f2)) ∧ w'.cell? ⟨(ad617.add (((ji12)).toNat * 4)).block, (ad617.add (((ji12)).toNat * 4)).off + 3, none⟩ = some (.string ((rd_T25 l0_2 (ji12)).f3))) (ds := []) #[false, false, false, false, false, false, false, false, false, false, false, false, false, false, false, false, false, false, false, false, false] (by kernel_rfl) rfl rfl ⟨(blk_cell BK608.out 0).trans rfl, (blk_cell BK608.out 1).trans rfl, (blk_cell BK608.out 2).trans rfl, ((HB.out.cell (World.block_lt_of_cell? w _ hw617_0)).trans hw617_0), ((HB.out.cell (World.block_lt_of_cell? w _ hw617_1)).trans hw617_1), ((HB.out.cell (World.block_lt_of_cell? w _ hw617_2)).trans hw617_2), ((HB.out.cell (World.block_lt_of_cell? w _ hw617_3)).trans hw617_3)⟩ (fun hHeld => ?_); refine with_tabW spec_RedoEdit.tab4 spec_RedoEdit.bits4 (fun HT_ HW_ => ?_)
        generalize w23.drew = w24 at BK608 BK609 HB HR627 hx617_0 hx617_1 hx617_2 hx617_3 hHeld ⊢
        refine pure_ (i := 2) (N := some 18) (v := ?_) (a' := ?_) #[false, false, true, false, false, false, false, false, false, false, false, false, false, false, false, false, false, false, false, false, false] rfl rfl (any_of HT_.out (by kernel_rfl)) (fun _ _ _ h => h) (Or.inl ⟨by rfl, ?_⟩) ?_ ?_
        rotate_left
        ·intro w'
         go_simp
         with_reducible rfl
        rotate_left
        ·simp only [Act.put, List.setIfInBounds_toArray, List.set_cons_zero, List.set_cons_succ, i64_w, i32_w]
         rfl
        refine pure_ (i := 5) (N := some 21) (v := ?_) (a' := ?_) #[false, false, true, false, false, true, false, false, false, false, false, false, false, false, false, false, false, false, false, false, false] rfl rfl (any_of HT_.out (by kernel_rfl)) (fun _ _ _ h => h) (Or.inl ⟨by rfl, ?_⟩) ?_ ?_
        rotate_left
        ·intro w'
         go_simp
         with_reducible rfl
        rotate_left
        ·simp only [Act.put, List.setIfInBounds_toArray, List.set_cons_zero, List.set_cons_succ, i64_w, i32_w]
         rfl
        refine pure_ (i := 7) (N := some 23) (v := ?_) (a' := ?_) #[false, false, true, false, false, true, false, true, false, false, false, false, false, false, false, false, false, false, false, false, false] rfl rfl (any_of HT_.out (by kernel_rfl)) (fun _ _ _ h => h) (Or.inl ⟨by rfl, ?_⟩) ?_ ?_
        rotate_left
        ·intro w'
         go_simp
         with_reducible rfl
        rotate_left
        ·simp only [Act.put, List.setIfInBounds_toArray, List.set_cons_zero, List.set_cons_succ, i64_w, i32_w]
         rfl
        refine pure_ (i := 8) (N := some 24) (v := ?_) (a' := ?_) #[false, false, true, false, false, true, false, true, true, false, false, false, false, false, false, false, false, false, false, false, false] rfl rfl (any_of HT_.out (by kernel_rfl)) (fun _ _ _ h => h) (Or.inl ⟨by rfl, ?_⟩) ?_ ?_
        rotate_left
        ·intro w'
         go_simp
         with_reducible rfl
        rotate_left
        ·simp only [Act.put, List.setIfInBounds_toArray, List.set_cons_zero, List.set_cons_succ, i64_w, i32_w]
         rfl
        refine pure_ (i := 13) (N := some 29) (v := ?_) (a' := ?_) #[false, false, true, false, false, true, false, true, true, false, false, false, false, true, false, false, false, false, false, false, false] rfl rfl (any_of HT_.out (by kernel_rfl)) (fun _ _ _ h => h) (Or.inl ⟨by rfl, ?_⟩) ?_ ?_
        rotate_left
        ·intro w'
         go_simp
         with_reducible rfl
        rotate_left
        ·simp only [Act.put, List.setIfInBounds_toArray, List.set_cons_zero, List.set_cons_succ, i64_w, i32_w]
         rfl
        refine pure_ (i := 15) (N := some 31) (v := ?_) (a' := ?_) #[false, false, true, false, false, true, false, true, true, false, false, false, false, true, false, true, false, false, false, false, false] rfl rfl (any_of HT_.out (by kernel_rfl)) (fun _ _ _ h => h) (Or.inl ⟨by rfl, ?_⟩) ?_ ?_
        rotate_left
        ·intro w'
         go_simp
         with_reducible rfl
        rotate_left
        ·simp only [Act.put, List.setIfInBounds_toArray, List.set_cons_zero, List.set_cons_succ, i64_w, i32_w]
         rfl
        refine pure_ (i := 16) (N := some 32) (v := ?_) (a' := ?_) #[false, false, true, false, false, true, false, true, true, false, false, false, false, true, false, true, true, false, false, false, false] rfl rfl (any_of HT_.out (by kernel_rfl)) (fun _ _ _ h => h) (Or.inl ⟨by rfl, ?_⟩) ?_ ?_
        rotate_left
        ·intro w'
         go_simp
         with_reducible rfl
        rotate_left
        ·simp only [Act.put, List.setIfInBounds_toArray, List.set_cons_zero, List.set_cons_succ, i64_w, i32_w]
         rfl
        refine take_ (i := 0) (N := some 16) (v := ?_) (a' := ?_) #[true, false, true, false, false, true, false, true, true, false, false, false, false, true, false, true, true, false, false, false, false] rfl rfl (take_ofW HT_.out HW_.out (by kernel_rfl)) (fun _ _ _ h => h) (Or.inl ⟨by rfl, ?_⟩) hHeld ?_ ?_
        rotate_left
        ·rintro w' ⟨s0, s1, s2, s3, s4, s5, s6⟩
         go_simp
         with_reducible rfl
        rotate_left
        ·simp only [Act.put, List.setIfInBounds_toArray, List.set_cons_zero, List.set_cons_succ, i64_w, i32_w]
         rfl
        refine take_ (i := 3) (N := some 19) (v := ?_) (a' := ?_) #[true, false, true, true, false, true, false, true, true, false, false, false, false, true, false, true, true, false, false, false, false] rfl rfl (take_ofW HT_.out HW_.out (by kernel_rfl)) (fun _ _ _ h => h) (Or.inl ⟨by rfl, ?_⟩) hHeld ?_ ?_
        rotate_left
        ·rintro w' ⟨s0, s1, s2, s3, s4, s5, s6⟩
         go_simp
         with_reducible rfl
        rotate_left
        ·simp only [Act.put, List.setIfInBounds_toArray, List.set_cons_zero, List.set_cons_succ, i64_w, i32_w]
         rfl
        refine take_ (i := 6) (N := some 22) (v := ?_) (a' := ?_) #[true, false, true, true, false, true, true, true, true, false, false, false, false, true, false, true, true, false, false, false, false] rfl rfl (take_ofW HT_.out HW_.out (by kernel_rfl)) (fun _ _ _ h => h) (Or.inl ⟨by rfl, ?_⟩) hHeld ?_ ?_
        rotate_left
        ·rintro w' ⟨s0, s1, s2, s3, s4, s5, s6⟩
         go_simp
         with_reducible rfl
        rotate_left
        ·simp only [Act.put, List.setIfInBounds_toArray, List.set_cons_zero, List.set_cons_succ, i64_w, i32_w]
         rfl
        refine pure_ (i := 9) (N := some 25) (v := ?_) (a' := ?_) #[true, false, true, true, false, true, true, true, true, true, false, false, false, true, false, true, true, false, false, false, false] rfl rfl (any_of HT_.out (by kernel_rfl)) (fun _ _ _ h => h) (Or.inl ⟨by rfl, ?_⟩) ?_ ?_
        rotate_left
        ·intro w'
         go_simp
         with_reducible rfl
        rotate_left
        ·simp only [Act.put, List.setIfInBounds_toArray, List.set_cons_zero, List.set_cons_succ, i64_w, i32_w]
         rfl
        refine take_ (i := 10) (N := some 26) (v := ?_) (a' := ?_) #[true, false, true, true, false, true, true, true, true, true, true, false, false, true, false, true, true, false, false, false, false] rfl rfl (take_ofW HT_.out HW_.out (by kernel_rfl)) (fun _ _ _ h => h) (Or.inl ⟨by rfl, ?_⟩) hHeld ?_ ?_
        rotate_left
        ·rintro w' ⟨s0, s1, s2, s3, s4, s5, s6⟩
         go_simp
         with_reducible rfl
        rotate_left
        ·simp only [Act.put, List.setIfInBounds_toArray, List.set_cons_zero, List.set_cons_succ, i64_w, i32_w]
         rfl
        refine take_ (i := 14) (N := some 30) (v := ?_) (a' := ?_) #[true, false, true, true, false, true, true, true, true, true, true, false, false, true, true, true, true, false, false, false, false] rfl rfl (take_ofW HT_.out HW_.out (by kernel_rfl)) (fun _ _ _ h => h) (Or.inl ⟨by rfl, ?_⟩) hHeld ?_ ?_
        rotate_left
        ·rintro w' ⟨s0, s1, s2, s3, s4, s5, s6⟩
         go_simp
         with_reducible rfl
        rotate_left
        ·simp only [Act.put, List.setIfInBounds_toArray, List.set_cons_zero, List.set_cons_succ, i64_w, i32_w]
         rfl
        refine pure_ (i := 17) (N := some 33) (v := ?_) (a' := ?_) #[true, false, true, true, false, true, true, true, true, true, true, false, false, true, true, true, true, true, false, false, false] rfl rfl (any_of HT_.out (by kernel_rfl)) (fun _ _ _ h => h) (Or.inl ⟨by rfl, ?_⟩) ?_ ?_
        rotate_left
        ·intro w'
         go_simp
         with_reducible rfl
        rotate_left
        ·simp only [Act.put, List.setIfInBounds_toArray, List.set_cons_zero, List.set_cons_succ, i64_w, i32_w]
         rfl
        refine join_ (σ := Value × Value × Value) 4 #[true, true, true, true, true, true, true, true, true, true, true, true, false, true, true, true, true, true, false, false, false] (fun s_ => [(17, s_.1), (20, s_.2.1), (27, s_.2.2)]) (fun s_ w' => (w'.cell? ⟨gb608, 0, none⟩ = some (.slice A0_0 l0_0.length c0_0) ∧ w'.cell? ⟨gb608, 1, none⟩ = some (.slice A0_1 l0_1.length c0_1) ∧ w'.cell? ⟨gb608, 2, none⟩ = some (.slice (some ad617) l0_2.length c0_2) ∧ w'.cell? (ad617.add (((ji12)).toNat * 4)) = some (.int .i64 ((rd_T25 l0_2 (ji12)).f0)) ∧ w'.cell? ⟨(ad617.add (((ji12)).toNat * 4)).block, (ad617.add (((ji12)).toNat * 4)).off + 1, none⟩ = some (.int .i64 ((rd_T25 l0_2 (ji12)).f1)) ∧ w'.cell? ⟨(ad617.add (((ji12)).toNat * 4)).block, (ad617.add (((ji12)).toNat * 4)).off + 2, none⟩ = some (.string ((rd_T25 l0_2 (ji12)).f2)) ∧ w'.cell? ⟨(ad617.add (((ji12)).toNat * 4)).block, (ad617.add (((ji12)).toNat * 4)).off + 3, none⟩ = some (.string ((rd_T25 l0_2 (ji12)).f3))) ∧ (Kd.R k25 25 w' w.heap.size (fun k_ => some k_ ≠ (s_.2.2 : Value).ownBlock) s_.2.1 y614) ∧ (Kd.R k25 25 w' w.heap.size (fun k_ => some k_ ≠ (s_.2.1 : Value).ownBlock) s_.2.2 y618) ∧ (w'.heap[gb608]? = some (.cells #[.slice A0_0 l0_0.length c0_0, .slice A0_1 l0_1.length c0_1, .slice (some ad617) l0_2.length c0_2] 35 (0, 0))) ∧ (w'.heap[gb609]? = some (.cells #[.slice none 0 0, .slice none 0 0, .slice none 0 0] 35 (0, 0))) ∧ (Below w.heap.size w w')) ?_ ?_
        rotate_left
        ·intro hCont
         refine two_ (i := 1) (j := 11) (Ni := some 17) (Nj := some 27) #[true, true, true, true, false, true, true, true, true, true, true, false, false, true, true, true, true, true, false, false, false] #[true, false, true, true, false, true, true, true, true, true, true, true, false, true, true, true, true, true, false, false, false] rfl rfl rfl rfl (two_of HT_.out (by kernel_rfl)) (by decide) (by decide) (fun K hK => ?_) (fun K hK => ?_)
         ·skip
          refine Kd.R_lit_step k25 _ 25 ?hg (N := 17) ?hd (xs := ([] : List (S25))) (inner := []) (ok := fun _ => True) (okp := fun _ => True) ?hr ?hp (fun _ hk => hk) trivial (Below.refl _ _) (Nat.le_refl _) (by simp) ?_; (case hd => rfl); (case hg => rfl); (case hr => first | (go_simp; done) | (go_simp; rfl)); (case hp => exact (Reps.none _ _))
          intro v612 w26 ho27 hb hg_ hnew_
          clear hg_ hnew_
          (first | rw [← Ny611.out] at ho27 | (simp only [Int.reduceToNat] at ho27; rw [← Ny611.out] at ho27))
          have n0_ := Aside0.mk (Kd.R_lower ho27 (below_size (bb2_ HB GE608 GE609)))
          have n1_ := Aside0.mk (lb_ BK608 hb)
          have n2_ := Aside0.mk (lb_ BK609 hb)
          have n3_ := Aside0.mk (below_step (bb2_ HB GE608 GE609) hb)
          clear BK608
          clear BK609
          clear HB
          have HO613 := n0_
          have BK608 := n1_
          have BK609 := n2_
          have HB := n3_
          clear n0_ n1_ n2_ n3_
          clear hb ho27
          refine hK.out _ _ ⟨(blk_cell BK608.out 0).trans rfl, (blk_cell BK608.out 1).trans rfl, (blk_cell BK608.out 2).trans rfl, ((HB.out.cell (World.block_lt_of_cell? w _ hw617_0)).trans hw617_0), ((HB.out.cell (World.block_lt_of_cell? w _ hw617_1)).trans hw617_1), ((HB.out.cell (World.block_lt_of_cell? w _ hw617_2)).trans hw617_2), ((HB.out.cell (World.block_lt_of_cell? w _ hw617_3)).trans hw617_3)⟩ (fun hHeld => ?_)
          clear hK K
          refine norm_ (a' := ?_) ?_ ?_
          rotate_left
          ·show Act.put _ (some 17) _ = _
           simp only [Act.put, List.setIfInBounds_toArray, List.set_cons_zero, List.set_cons_succ, i64_w, i32_w]
           rfl
          refine two_ (i := 4) (j := 11) (Ni := some 20) (Nj := some 27) #[true, true, true, true, true, true, true, true, true, true, true, false, false, true, true, true, true, true, false, false, false] #[true, true, true, true, false, true, true, true, true, true, true, true, false, true, true, true, true, true, false, false, false] rfl rfl rfl rfl (two_of HT_.out (by kernel_rfl)) (by decide) (by decide) (fun K hK => ?_) (fun K hK => ?_)
          ·skip
           refine Kd.R_append_rows_step k25 (w0 := w) w.heap.size (by rfl) (.tmp 17) (.tmp 19) 33 25 (.agg #[(.int .i64 0), (.int .i64 0), (.string ⟨#[]⟩), (.string ⟨#[]⟩)]) 48 rfl Try.underlying33 info25 rfl (by decide) (by omega) v612 y611 l0_1 _ _ _ (fun _ => True) (fun _ => False) rfl rfl ?aO ?aR (fun _ _ h => h) (fun _ h => h.elim) ?aF ?aB ?aS ?aL ?_
           (case aR => repeat (first | exact (Kd.C_below HR0_1.out HB.out) | (with_reducible first | apply cA_ | apply cN_ | apply cD_)))
           (case aB => exact (bb2_ HB GE608 GE609))
           (case aF => exact (fun _ _ => trivial))
           (case aO => exact (ra_ HO613))
           (case aS => exact (below_size (bb2_ HB GE608 GE609)))
           (case aL => have := LMc11.out; omega)
           intro v615 w28 ho hb hg hat
           rw [← Ny614.out] at ho
           have n0_ := Aside0.mk (blk_grown (g := gb608) (o := .cells #[.slice A0_0 l0_0.length c0_0, .slice A0_1 l0_1.length c0_1, .slice (some ad617) l0_2.length c0_2] 35 (0, 0)) (la_ BK608) hg (Kd.R_ne HO613.out BK608.out (by decide)))
           have n1_ := Aside0.mk (blk_grown (g := gb609) (o := .cells #[.slice none 0 0, .slice none 0 0, .slice none 0 0] 35 (0, 0)) (la_ BK609) hg (Kd.R_ne HO613.out BK609.out (by decide)))
           have n2_ := Aside0.mk (hb)
           have n3_ := Aside0.mk (ho)
           clear BK608
           clear BK609
           clear HB
           clear HO613
           have BK608 := n0_
           have BK609 := n1_
           have HB := n2_
           have HO616 := n3_
           clear n0_ n1_ n2_ n3_
           clear ho hb hg hat
           refine hK.out _ _ ⟨(blk_cell BK608.out 0).trans rfl, (blk_cell BK608.out 1).trans rfl, (blk_cell BK608.out 2).trans rfl, ((HB.out.cell (World.block_lt_of_cell? w _ hw617_0)).trans hw617_0), ((HB.out.cell (World.block_lt_of_cell? w _ hw617_1)).trans hw617_1), ((HB.out.cell (World.block_lt_of_cell? w _ hw617_2)).trans hw617_2), ((HB.out.cell (World.block_lt_of_cell? w _ hw617_3)).trans hw617_3)⟩ (fun hHeld => ?_)
           clear hK K
           refine norm_ (a' := ?_) ?_ ?_
           rotate_left
           ·show Act.put _ (some 20) _ = _
            simp only [Act.put, List.setIfInBounds_toArray, List.set_cons_zero, List.set_cons_succ, i64_w, i32_w]
            rfl
           refine one_ (i := 11) (N := some 27) #[true, true, true, true, true, true, true, true, true, true, true, true, false, true, true, true, true, true, false, false, false] rfl rfl (one_of HT_.out (by kernel_rfl)) (by decide) (fun K hK => ?_)
           refine Kd.R_lit_step k25 _ 25 ?hg (N := 27) ?hd (xs := ([(⟨(rd_T25 l0_2 (ji12)).f0, (rd_T25 l0_2 (ji12)).f1, (rd_T25 l0_2 (ji12)).f2, (rd_T25 l0_2 (ji12)).f3⟩ : S25)] : List (S25))) (inner := [.int .i64 ((rd_T25 l0_2 (ji12)).f0), .int .i64 ((rd_T25 l0_2 (ji12)).f1), .string ((rd_T25 l0_2 (ji12)).f2), .string ((rd_T25 l0_2 (ji12)).f3)]) (ok := fun _ => True) (okp := fun _ => True) ?hr ?hp (fun _ hk => hk) trivial (Below.refl _ _) (Nat.le_refl _) (by simp) ?_; (case hd => rfl); (case hg => rfl); (case hr => first | (go_simp; done) | (go_simp; rfl)); (case hp => exact (Reps.c4 (show Kd.M k25 _ _ _ (⟨(rd_T25 l0_2 (ji12)).f0, (rd_T25 l0_2 (ji12)).f1, (rd_T25 l0_2 (ji12)).f2, (rd_T25 l0_2 (ji12)).f3⟩ : S25) [.int .i64 ((rd_T25 l0_2 (ji12)).f0), .int .i64 ((rd_T25 l0_2 (ji12)).f1), .string ((rd_T25 l0_2 (ji12)).f2), .string ((rd_T25 l0_2 (ji12)).f3)] from (k25_mkM _ _ _ (⟨(rd_T25 l0_2 (ji12)).f0, (rd_T25 l0_2 (ji12)).f1, (rd_T25 l0_2 (ji12)).f2, (rd_T25 l0_2 (ji12)).f3⟩ : S25) )) (Reps.none _ _)))
           intro v619 w29 ho30 hb hg_ hnew_
           clear hg_ hnew_
           (first | rw [← Ny618.out] at ho30 | (simp only [Int.reduceToNat] at ho30; rw [← Ny618.out] at ho30))
           have n0_ := Aside0.mk (Kd.R_elder' (ra_ HO616) (Kd.R_base ho30) hb)
           have n1_ := Aside0.mk (Kd.R_lower (Kd.R_new' ho30 (Kd.R_lt (ra_ HO616))) (below_size (bb2_ HB GE608 GE609)))
           have n2_ := Aside0.mk (lb_ BK608 hb)
           have n3_ := Aside0.mk (lb_ BK609 hb)
           have n4_ := Aside0.mk (below_step (bb2_ HB GE608 GE609) hb)
           clear HO616
           clear BK608
           clear BK609
           clear HB
           have HO616 := n0_
           have HO620 := n1_
           have BK608 := n2_
           have BK609 := n3_
           have HB := n4_
           clear n0_ n1_ n2_ n3_ n4_
           clear hb ho30
           refine hK.out _ _ ⟨(blk_cell BK608.out 0).trans rfl, (blk_cell BK608.out 1).trans rfl, (blk_cell BK608.out 2).trans rfl, ((HB.out.cell (World.block_lt_of_cell? w _ hw617_0)).trans hw617_0), ((HB.out.cell (World.block_lt_of_cell? w _ hw617_1)).trans hw617_1), ((HB.out.cell (World.block_lt_of_cell? w _ hw617_2)).trans hw617_2), ((HB.out.cell (World.block_lt_of_cell? w _ hw617_3)).trans hw617_3)⟩ (fun hHeld => ?_)
           clear hK K
           refine norm_ (a' := ?_) ?_ ?_
           rotate_left
           ·show Act.put _ (some 27) _ = _
            simp only [Act.put, List.setIfInBounds_toArray, List.set_cons_zero, List.set_cons_succ, i64_w, i32_w]
            rfl
           exact norm_ (by simp only [putAll, Act.put, List.setIfInBounds_toArray, List.set_cons_zero, List.set_cons_succ]) (hCont (v612, v615, v619) _ ⟨hHeld, (by (with_reducible repeat (first | apply rA_ | apply rN_ | apply rD_)); exact Kd.R_mono HO616.out (fun _ hk => hk.2)), (by (with_reducible repeat (first | apply rA_ | apply rN_ | apply rD_)); exact Kd.R_mono HO620.out (fun _ hk => hk.2)), (la_ BK608), (la_ BK609), (bb2_ HB GE608 GE609)⟩)
          ·skip
           refine Kd.R_lit_step k25 _ 25 ?hg (N := 27) ?hd (xs := ([(⟨(rd_T25 l0_2 (ji12)).f0, (rd_T25 l0_2 (ji12)).f1, (rd_T25 l0_2 (ji12)).f2, (rd_T25 l0_2 (ji12)).f3⟩ : S25)] : List (S25))) (inner := [.int .i64 ((rd_T25 l0_2 (ji12)).f0), .int .i64 ((rd_T25 l0_2 (ji12)).f1), .string ((rd_T25 l0_2 (ji12)).f2), .string ((rd_T25 l0_2 (ji12)).f3)]) (ok := fun _ => True) (okp := fun _ => True) ?hr ?hp (fun _ hk => hk) trivial (Below.refl _ _) (Nat.le_refl _) (by simp) ?_; (case hd => rfl); (case hg => rfl); (case hr => first | (go_simp; done) | (go_simp; rfl)); (case hp => exact (Reps.c4 (show Kd.M k25 _ _ _ (⟨(rd_T25 l0_2 (ji12)).f0, (rd_T25 l0_2 (ji12)).f1, (rd_T25 l0_2 (ji12)).f2, (rd_T25 l0_2 (ji12)).f3⟩ : S25) [.int .i64 ((rd_T25 l0_2 (ji12)).f0), .int .i64 ((rd_T25 l0_2 (ji12)).f1), .string ((rd_T25 l0_2 (ji12)).f2), .string ((rd_T25 l0_2 (ji12)).f3)] from (k25_mkM _ _ _ (⟨(rd_T25 l0_2 (ji12)).f0, (rd_T25 l0_2 (ji12)).f1, (rd_T25 l0_2 (ji12)).f2, (rd_T25 l0_2 (ji12)).f3⟩ : S25) )) (Reps.none _ _)))
           intro v619 w28 ho29 hb hg_ hnew_
           clear hg_ hnew_
           (first | rw [← Ny618.out] at ho29 | (simp only [Int.reduceToNat] at ho29; rw [← Ny618.out] at ho29))
           have n0_ := Aside0.mk (Kd.R_elder' (ra_ HO613) (Kd.R_base ho29) hb)
           have n1_ := Aside0.mk (Kd.R_lower (Kd.R_new' ho29 (Kd.R_lt (ra_ HO613))) (below_size (bb2_ HB GE608 GE609)))
           have n2_ := Aside0.mk (lb_ BK608 hb)
           have n3_ := Aside0.mk (lb_ BK609 hb)
           have n4_ := Aside0.mk (below_step (bb2_ HB GE608 GE609) hb)
           clear HO613
           clear BK608
           clear BK609
           clear HB
           have HO613 := n0_
           have HO620 := n1_
           have BK608 := n2_
           have BK609 := n3_
           have HB := n4_
           clear n0_ n1_ n2_ n3_ n4_
           clear hb ho29
           refine hK.out _ _ ⟨(blk_cell BK608.out 0).trans rfl, (blk_cell BK608.out 1).trans rfl, (blk_cell BK608.out 2).trans rfl, ((HB.out.cell (World.block_lt_of_cell? w _ hw617_0)).trans hw617_0), ((HB.out.cell (World.block_lt_of_cell? w _ hw617_1)).trans hw617_1), ((HB.out.cell (World.block_lt_of_cell? w _ hw617_2)).trans hw617_2), ((HB.out.cell (World.block_lt_of_cell? w _ hw617_3)).trans hw617_3)⟩ (fun hHeld => ?_)
           clear hK K
           refine norm_ (a' := ?_) ?_ ?_
           rotate_left
           ·show Act.put _ (some 27) _ = _
            simp only [Act.put, List.setIfInBounds_toArray, List.set_cons_zero, List.set_cons_succ, i64_w, i32_w]
            rfl
           refine one_ (i := 4) (N := some 20) #[true, true, true, true, true, true, true, true, true, true, true, true, false, true, true, true, true, true, false, false, false] rfl rfl (one_of HT_.out (by kernel_rfl)) (by decide) (fun K hK => ?_)
           refine Kd.R_append_rows_step k25 (w0 := w) w.heap.size (by rfl) (.tmp 17) (.tmp 19) 33 25 (.agg #[(.int .i64 0), (.int .i64 0), (.string ⟨#[]⟩), (.string ⟨#[]⟩)]) 48 rfl Try.underlying33 info25 rfl (by decide) (by omega) v612 y611 l0_1 _ _ _ (fun k_ => some k_ ≠ (v619 : Value).ownBlock) (fun _ => False) rfl rfl ?aO ?aR (fun _ _ h => h) (fun _ h => h.elim) ?aF ?aB ?aS ?aL ?_
           (case aR => repeat (first | exact (Kd.C_below HR0_1.out HB.out) | (with_reducible first | apply cA_ | apply cN_ | apply cD_)))
           (case aB => exact (bb2_ HB GE608 GE609))
           (case aF => exact (fun k_ hk => Kd.fresh' (Kd.R_lt (ra_ HO620)) k_ hk))
           (case aO => exact (by (with_reducible repeat (first | apply rA_ | apply rN_ | apply rD_)); exact Kd.R_mono HO613.out (fun _ hk => hk.2)))
           (case aS => exact (below_size (bb2_ HB GE608 GE609)))
           (case aL => have := LMc11.out; omega)
           intro v615 w30 ho hb hg hat
           rw [← Ny614.out] at ho
           have n0_ := Aside0.mk (blk_grown (g := gb608) (o := .cells #[.slice A0_0 l0_0.length c0_0, .slice A0_1 l0_1.length c0_1, .slice (some ad617) l0_2.length c0_2] 35 (0, 0)) (la_ BK608) hg (Kd.R_ne HO613.out BK608.out (by decide)))
           have n1_ := Aside0.mk (blk_grown (g := gb609) (o := .cells #[.slice none 0 0, .slice none 0 0, .slice none 0 0] 35 (0, 0)) (la_ BK609) hg (Kd.R_ne HO613.out BK609.out (by decide)))
           have n2_ := Aside0.mk (Kd.R_after (ok := (fun _ => True)) (ra_ HO620) hg hat)
           have n3_ := Aside0.mk (hb)
           have n4_ := Aside0.mk (ho)
           clear BK608
           clear BK609
           clear HO620
           clear HB
           clear HO613
           have BK608 := n0_
           have BK609 := n1_
           have HO620 := n2_
           have HB := n3_
           have HO616 := n4_
           clear n0_ n1_ n2_ n3_ n4_
           clear ho hb hg hat
           refine hK.out _ _ ⟨(blk_cell BK608.out 0).trans rfl, (blk_cell BK608.out 1).trans rfl, (blk_cell BK608.out 2).trans rfl, ((HB.out.cell (World.block_lt_of_cell? w _ hw617_0)).trans hw617_0), ((HB.out.cell (World.block_lt_of_cell? w _ hw617_1)).trans hw617_1), ((HB.out.cell (World.block_lt_of_cell? w _ hw617_2)).trans hw617_2), ((HB.out.cell (World.block_lt_of_cell? w _ hw617_3)).trans hw617_3)⟩ (fun hHeld => ?_)
           clear hK K
           refine norm_ (a' := ?_) ?_ ?_
           rotate_left
           ·show Act.put _ (some 20) _ = _
            simp only [Act.put, List.setIfInBounds_toArray, List.set_cons_zero, List.set_cons_succ, i64_w, i32_w]
            rfl
           exact norm_ (by simp only [putAll, Act.put, List.setIfInBounds_toArray, List.set_cons_zero, List.set_cons_succ]) (hCont (v612, v615, v619) _ ⟨hHeld, (ra_ HO616), (by (with_reducible repeat (first | apply rA_ | apply rN_ | apply rD_)); exact Kd.R_mono HO620.out (fun _ hk => hk.2)), (la_ BK608), (la_ BK609), (bb2_ HB GE608 GE609)⟩)
         ·skip
          refine Kd.R_lit_step k25 _ 25 ?hg (N := 27) ?hd (xs := ([(⟨(rd_T25 l0_2 (ji12)).f0, (rd_T25 l0_2 (ji12)).f1, (rd_T25 l0_2 (ji12)).f2, (rd_T25 l0_2 (ji12)).f3⟩ : S25)] : List (S25))) (inner := [.int .i64 ((rd_T25 l0_2 (ji12)).f0), .int .i64 ((rd_T25 l0_2 (ji12)).f1), .string ((rd_T25 l0_2 (ji12)).f2), .string ((rd_T25 l0_2 (ji12)).f3)]) (ok := fun _ => True) (okp := fun _ => True) ?hr ?hp (fun _ hk => hk) trivial (Below.refl _ _) (Nat.le_refl _) (by simp) ?_; (case hd => rfl); (case hg => rfl); (case hr => first | (go_simp; done) | (go_simp; rfl)); (case hp => exact (Reps.c4 (show Kd.M k25 _ _ _ (⟨(rd_T25 l0_2 (ji12)).f0, (rd_T25 l0_2 (ji12)).f1, (rd_T25 l0_2 (ji12)).f2, (rd_T25 l0_2 (ji12)).f3⟩ : S25) [.int .i64 ((rd_T25 l0_2 (ji12)).f0), .int .i64 ((rd_T25 l0_2 (ji12)).f1), .string ((rd_T25 l0_2 (ji12)).f2), .string ((rd_T25 l0_2 (ji12)).f3)] from (k25_mkM _ _ _ (⟨(rd_T25 l0_2 (ji12)).f0, (rd_T25 l0_2 (ji12)).f1, (rd_T25 l0_2 (ji12)).f2, (rd_T25 l0_2 (ji12)).f3⟩ : S25) )) (Reps.none _ _)))
          intro v619 w26 ho27 hb hg_ hnew_
          clear hg_ hnew_
          (first | rw [← Ny618.out] at ho27 | (simp only [Int.reduceToNat] at ho27; rw [← Ny618.out] at ho27))
          have n0_ := Aside0.mk (Kd.R_lower ho27 (below_size (bb2_ HB GE608 GE609)))
          have n1_ := Aside0.mk (lb_ BK608 hb)
          have n2_ := Aside0.mk (lb_ BK609 hb)
          have n3_ := Aside0.mk (below_step (bb2_ HB GE608 GE609) hb)
          clear BK608
          clear BK609
          clear HB
          have HO620 := n0_
          have BK608 := n1_
          have BK609 := n2_
          have HB := n3_
          clear n0_ n1_ n2_ n3_
          clear hb ho27
          refine hK.out _ _ ⟨(blk_cell BK608.out 0).trans rfl, (blk_cell BK608.out 1).trans rfl, (blk_cell BK608.out 2).trans rfl, ((HB.out.cell (World.block_lt_of_cell? w _ hw617_0)).trans hw617_0), ((HB.out.cell (World.block_lt_of_cell? w _ hw617_1)).trans hw617_1), ((HB.out.cell (World.block_lt_of_cell? w _ hw617_2)).trans hw617_2), ((HB.out.cell (World.block_lt_of_cell? w _ hw617_3)).trans hw617_3)⟩ (fun hHeld => ?_)
          clear hK K
          refine norm_ (a' := ?_) ?_ ?_
          rotate_left
          ·show Act.put _ (some 27) _ = _
           simp only [Act.put, List.setIfInBounds_toArray, List.set_cons_zero, List.set_cons_succ, i64_w, i32_w]
           rfl
          refine one_ (i := 1) (N := some 17) #[true, true, true, true, false, true, true, true, true, true, true, true, false, true, true, true, true, true, false, false, false] rfl rfl (one_of HT_.out (by kernel_rfl)) (by decide) (fun K hK => ?_)
          refine Kd.R_lit_step k25 _ 25 ?hg (N := 17) ?hd (xs := ([] : List (S25))) (inner := []) (ok := fun _ => True) (okp := fun _ => True) ?hr ?hp (fun _ hk => hk) trivial (Below.refl _ _) (Nat.le_refl _) (by simp) ?_; (case hd => rfl); (case hg => rfl); (case hr => first | (go_simp; done) | (go_simp; rfl)); (case hp => exact (Reps.none _ _))
          intro v612 w28 ho29 hb hg_ hnew_
          clear hg_ hnew_
          (first | rw [← Ny611.out] at ho29 | (simp only [Int.reduceToNat] at ho29; rw [← Ny611.out] at ho29))
          have n0_ := Aside0.mk (Kd.R_elder' (ra_ HO620) (Kd.R_base ho29) hb)
          have n1_ := Aside0.mk (Kd.R_lower (Kd.R_new' ho29 (Kd.R_lt (ra_ HO620))) (below_size (bb2_ HB GE608 GE609)))
          have n2_ := Aside0.mk (lb_ BK608 hb)
          have n3_ := Aside0.mk (lb_ BK609 hb)
          have n4_ := Aside0.mk (below_step (bb2_ HB GE608 GE609) hb)
          clear HO620
          clear BK608
          clear BK609
          clear HB
          have HO620 := n0_
          have HO613 := n1_
          have BK608 := n2_
          have BK609 := n3_
          have HB := n4_
          clear n0_ n1_ n2_ n3_ n4_
          clear hb ho29
          refine hK.out _ _ ⟨(blk_cell BK608.out 0).trans rfl, (blk_cell BK608.out 1).trans rfl, (blk_cell BK608.out 2).trans rfl, ((HB.out.cell (World.block_lt_of_cell? w _ hw617_0)).trans hw617_0), ((HB.out.cell (World.block_lt_of_cell? w _ hw617_1)).trans hw617_1), ((HB.out.cell (World.block_lt_of_cell? w _ hw617_2)).trans hw617_2), ((HB.out.cell (World.block_lt_of_cell? w _ hw617_3)).trans hw617_3)⟩ (fun hHeld => ?_)
          clear hK K
          refine norm_ (a' := ?_) ?_ ?_
          rotate_left
          ·show Act.put _ (some 17) _ = _
           simp only [Act.put, List.setIfInBounds_toArray, List.set_cons_zero, List.set_cons_succ, i64_w, i32_w]
           rfl
          refine one_ (i := 4) (N := some 20) #[true, true, true, true, true, true, true, true, true, true, true, true, false, true, true, true, true, true, false, false, false] rfl rfl (one_of HT_.out (by kernel_rfl)) (by decide) (fun K hK => ?_)
          refine Kd.R_append_rows_step k25 (w0 := w) w.heap.size (by rfl) (.tmp 17) (.tmp 19) 33 25 (.agg #[(.int .i64 0), (.int .i64 0), (.string ⟨#[]⟩), (.string ⟨#[]⟩)]) 48 rfl Try.underlying33 info25 rfl (by decide) (by omega) v612 y611 l0_1 _ _ _ (fun k_ => some k_ ≠ (v619 : Value).ownBlock) (fun _ => False) rfl rfl ?aO ?aR (fun _ _ h => h) (fun _ h => h.elim) ?aF ?aB ?aS ?aL ?_
          (case aR => repeat (first | exact (Kd.C_below HR0_1.out HB.out) | (with_reducible first | apply cA_ | apply cN_ | apply cD_)))
          (case aB => exact (bb2_ HB GE608 GE609))
          (case aF => exact (fun k_ hk => Kd.fresh' (Kd.R_lt (ra_ HO620)) k_ hk))
          (case aO => exact (by (with_reducible repeat (first | apply rA_ | apply rN_ | apply rD_)); exact Kd.R_mono HO613.out (fun _ hk => hk.2)))
          (case aS => exact (below_size (bb2_ HB GE608 GE609)))
          (case aL => have := LMc11.out; omega)
          intro v615 w30 ho hb hg hat
          rw [← Ny614.out] at ho
          have n0_ := Aside0.mk (blk_grown (g := gb608) (o := .cells #[.slice A0_0 l0_0.length c0_0, .slice A0_1 l0_1.length c0_1, .slice (some ad617) l0_2.length c0_2] 35 (0, 0)) (la_ BK608) hg (Kd.R_ne HO613.out BK608.out (by decide)))
          have n1_ := Aside0.mk (blk_grown (g := gb609) (o := .cells #[.slice none 0 0, .slice none 0 0, .slice none 0 0] 35 (0, 0)) (la_ BK609) hg (Kd.R_ne HO613.out BK609.out (by decide)))
          have n2_ := Aside0.mk (Kd.R_after (ok := (fun _ => True)) (ra_ HO620) hg hat)
          have n3_ := Aside0.mk (hb)
          have n4_ := Aside0.mk (ho)
          clear BK608
          clear BK609
          clear HO620
          clear HB
          clear HO613
          have BK608 := n0_
          have BK609 := n1_
          have HO620 := n2_
          have HB := n3_
          have HO616 := n4_
          clear n0_ n1_ n2_ n3_ n4_
          clear ho hb hg hat
          refine hK.out _ _ ⟨(blk_cell BK608.out 0).trans rfl, (blk_cell BK608.out 1).trans rfl, (blk_cell BK608.out 2).trans rfl, ((HB.out.cell (World.block_lt_of_cell? w _ hw617_0)).trans hw617_0), ((HB.out.cell (World.block_lt_of_cell? w _ hw617_1)).trans hw617_1), ((HB.out.cell (World.block_lt_of_cell? w _ hw617_2)).trans hw617_2), ((HB.out.cell (World.block_lt_of_cell? w _ hw617_3)).trans hw617_3)⟩ (fun hHeld => ?_)
          clear hK K
          refine norm_ (a' := ?_) ?_ ?_
          rotate_left
          ·show Act.put _ (some 20) _ = _
           simp only [Act.put, List.setIfInBounds_toArray, List.set_cons_zero, List.set_cons_succ, i64_w, i32_w]
           rfl
          exact norm_ (by simp only [putAll, Act.put, List.setIfInBounds_toArray, List.set_cons_zero, List.set_cons_succ]) (hCont (v612, v615, v619) _ ⟨hHeld, (ra_ HO616), (by (with_reducible repeat (first | apply rA_ | apply rN_ | apply rD_)); exact Kd.R_mono HO620.out (fun _ hk => hk.2)), (la_ BK608), (la_ BK609), (bb2_ HB GE608 GE609)⟩)
        rintro ⟨v612, v615, v619⟩ w31 ⟨hS_, h0_, h1_, h2_, h3_, h4_⟩
        have n0_ : Aside0 (Kd.R k25 25 w31 w.heap.size (fun k_ => some k_ ≠ (v619 : Value).ownBlock) v615 y614) := ⟨h0_⟩
        have n1_ : Aside0 (Kd.R k25 25 w31 w.heap.size (fun k_ => some k_ ≠ (v615 : Value).ownBlock) v619 y618) := ⟨h1_⟩
        have n2_ : Aside0 (w31.heap[gb608]? = some (.cells #[.slice A0_0 l0_0.length c0_0, .slice A0_1 l0_1.length c0_1, .slice (some ad617) l0_2.length c0_2] 35 (0, 0))) := ⟨h2_⟩
        have n3_ : Aside0 (w31.heap[gb609]? = some (.cells #[.slice none 0 0, .slice none 0 0, .slice none 0 0] 35 (0, 0))) := ⟨h3_⟩
        have n4_ : Aside0 (Below w.heap.size w w31) := ⟨h4_⟩
        clear BK608
        clear BK609
        clear HB
        clear h0_ h1_ h2_ h3_ h4_
        have HO616 := n0_
        have HO620 := n1_
        have BK608 := n2_
        have BK609 := n3_
        have HB := n4_
        clear n0_ n1_ n2_ n3_ n4_
        have hHeld : w31.cell? ⟨gb608, 0, none⟩ = some (.slice A0_0 l0_0.length c0_0) ∧ w31.cell? ⟨gb608, 1, none⟩ = some (.slice A0_1 l0_1.length c0_1) ∧ w31.cell? ⟨gb608, 2, none⟩ = some (.slice (some ad617) l0_2.length c0_2) ∧ w31.cell? (ad617.add (((ji12)).toNat * 4)) = some (.int .i64 ((rd_T25 l0_2 (ji12)).f0)) ∧ w31.cell? ⟨(ad617.add (((ji12)).toNat * 4)).block, (ad617.add (((ji12)).toNat * 4)).off + 1, none⟩ = some (.int .i64 ((rd_T25 l0_2 (ji12)).f1)) ∧ w31.cell? ⟨(ad617.add (((ji12)).toNat * 4)).block, (ad617.add (((ji12)).toNat * 4)).off + 2, none⟩ = some (.string ((rd_T25 l0_2 (ji12)).f2)) ∧ w31.cell? ⟨(ad617.add (((ji12)).toNat * 4)).block, (ad617.add (((ji12)).toNat * 4)).off + 3, none⟩ = some (.string ((rd_T25 l0_2 (ji12)).f3)) := hS_
        obtain ⟨Ao33, co33, eo33⟩ := Kd.R_slice HO620.out
        (first | subst eo33 | (injection eo33 with f1_ f2_ f3_; have f4_ := f1_.symm; have f5_ := f3_.symm; clear f1_ f2_ f3_; subst f4_; subst f5_))
        refine norm_ (a' := ?_) ?_ ?_
        rotate_left
        ·simp only [putAll, Act.put, List.setIfInBounds_toArray, List.set_cons_zero, List.set_cons_succ]
         rfl
        refine one_ (i := 12) (N := some 28) #[true, true, true, true, true, true, true, true, true, true, true, true, true, true, true, true, true, true, false, false, false] rfl rfl (one_of HT_.out (by kernel_rfl)) (by decide) (fun K hK => ?_)
        refine Kd.R_append_rows_step k25 (w0 := w) w.heap.size (by rfl) (.tmp 20) (.tmp 27) 33 25 (.agg #[(.int .i64 0), (.int .i64 0), (.string ⟨#[]⟩), (.string ⟨#[]⟩)]) 48 rfl Try.underlying33 info25 rfl (by decide) (by omega) v615 y614 y618 _ _ _ (fun k_ => some k_ ≠ (.slice Ao33 y618.length co33 : Value).ownBlock) (fun _ => False) rfl rfl ?aO ?aR (fun _ _ h => h) (fun _ h => h.elim) ?aF ?aB ?aS ?aL ?_
        (case aR => repeat (first | exact (Kd.R_reads' HO620.out).2.2 | (with_reducible first | apply cA_ | apply cN_ | apply cD_)))
        (case aB => exact (bb2_ HB GE608 GE609))
        (case aF => exact (fun k_ hk => Kd.fresh' (Kd.R_lt (ra_ HO620)) k_ hk))
        (case aO => exact (ra_ HO616))
        (case aS => exact (below_size (bb2_ HB GE608 GE609)))
        (case aL => have := LMc15.out; omega)
        intro v622 w32 ho hb hg hat
        rw [← Ny621.out] at ho
        have n0_ := Aside0.mk (blk_grown (g := gb608) (o := .cells #[.slice A0_0 l0_0.length c0_0, .slice A0_1 l0_1.length c0_1, .slice (some ad617) l0_2.length c0_2] 35 (0, 0)) (la_ BK608) hg (Kd.R_ne HO616.out BK608.out (by decide)))
        have n1_ := Aside0.mk (blk_grown (g := gb609) (o := .cells #[.slice none 0 0, .slice none 0 0, .slice none 0 0] 35 (0, 0)) (la_ BK609) hg (Kd.R_ne HO616.out BK609.out (by decide)))
        have n2_ := Aside0.mk (Kd.R_after (ok := (fun _ => True)) (by (with_reducible repeat (first | apply rA_ | apply rN_ | apply rD_)); exact Kd.R_mono HO620.out (fun _ hk => ⟨trivial, hk⟩)) hg hat)
        have n3_ := Aside0.mk (hb)
        have n4_ := Aside0.mk (ho)
        clear BK608
        clear BK609
        clear HO620
        clear HB
        clear HO616
        have BK608 := n0_
        have BK609 := n1_
        have HO620 := n2_
        have HB := n3_
        have HO623 := n4_
        clear n0_ n1_ n2_ n3_ n4_
        clear ho hb hg hat
        obtain ⟨Ao34, co34, eo34⟩ := Kd.R_slice HO623.out
        (first | subst eo34 | (injection eo34 with f1_ f2_ f3_; have f4_ := f1_.symm; have f5_ := f3_.symm; clear f1_ f2_ f3_; subst f4_; subst f5_))
        refine hK.out _ _ ⟨(blk_cell BK608.out 0).trans rfl, (blk_cell BK608.out 1).trans rfl, (blk_cell BK608.out 2).trans rfl, ((HB.out.cell (World.block_lt_of_cell? w _ hw617_0)).trans hw617_0), ((HB.out.cell (World.block_lt_of_cell? w _ hw617_1)).trans hw617_1), ((HB.out.cell (World.block_lt_of_cell? w _ hw617_2)).trans hw617_2), ((HB.out.cell (World.block_lt_of_cell? w _ hw617_3)).trans hw617_3)⟩ (fun hHeld => ?_)
        clear hK K
        refine norm_ (a' := ?_) ?_ ?_
        rotate_left
        ·show Act.put _ (some 28) _ = _
         simp only [Act.put, List.setIfInBounds_toArray, List.set_cons_zero, List.set_cons_succ, i64_w, i32_w]
         rfl
        refine one_ (i := 18) (N := some 34) #[true, true, true, true, true, true, true, true, true, true, true, true, true, true, true, true, true, true, true, false, false] rfl rfl (one_of HT_.out (by kernel_rfl)) (by decide) (fun K hK => ?_)
        refine goes_ Try.func68 (by kernel_rfl) rfl #[.agg #[.slice A0_0 l0_0.length c0_0, .slice A0_1 l0_1.length c0_1, .slice (some ad617) l0_2.length c0_2], .slice Ao34 y621.length co34, .slice (some ad617) y624.length c0_2] (by rfl) rfl rfl args_ ?_
        with_reducible refine (spec_unDesk.calls _ _ l0_0 _ _ l0_1 _ _ l0_2 _ _ y621 _ _ y624 t628 t631 t634 _ ?side1 ?side2 ?side3 ?side4 ?side5 ?side6 ?side7 ?side8 ?side9 ?side10 A18.out).mono ?_
        (case side1 => repeat (first | exact (Kd.C_below HR0_0.out HB.out) | (with_reducible first | apply cA_ | apply cN_ | apply cD_)))
        (case side2 => exact HC0_0.out)
        (case side3 => repeat (first | exact (Kd.C_below HR0_1.out HB.out) | (with_reducible first | apply cA_ | apply cN_ | apply cD_)))
        (case side4 => exact HC0_1.out)
        (case side5 => repeat (first | exact (Kd.C_below HR0_2.out HB.out) | (with_reducible first | apply cA_ | apply cN_ | apply cD_)))
        (case side6 => exact HC0_2.out)
        (case side7 => repeat (first | exact (Kd.R_reads' HO623.out).2.2 | (with_reducible first | apply cA_ | apply cN_ | apply cD_)))
        (case side8 => exact (Kd.R_reads' HO623.out).2.1)
        (case side9 => repeat (first | exact (Kd.C_below HR627.out HB.out) | (with_reducible first | apply cA_ | apply cN_ | apply cD_)))
        (case side10 => exact HC627.out)
        rintro e w35 ⟨v629, v632, v635, rfl, ho0, ho1, ho2, hb⟩
        refine ⟨_, rfl, ?_⟩
        have n0_ := Aside0.mk (Kd.R_mono (Kd.R_told (Kd.R_told (Kd.R_old (ra_ HO620) hb) (Kd.R_base ho1)) (Kd.R_base ho2)) (fun _ h_ => h_.1))
        have n1_ := Aside0.mk (Kd.R_mono (Kd.R_told (Kd.R_told (Kd.R_old (ra_ HO623) hb) (Kd.R_base ho1)) (Kd.R_base ho2)) (fun _ h_ => h_.1))
        have n2_ := Aside0.mk (Kd.R_lower ho0 (below_size (bb2_ HB GE608 GE609)))
        have n3_ := Aside0.mk (Kd.R_lower (Kd.R_new' (Kd.R_new' ho1 (Kd.R_lt (ra_ HO620))) (Kd.R_lt (ra_ HO623))) (below_size (bb2_ HB GE608 GE609)))
        have n4_ := Aside0.mk (Kd.R_lower (Kd.R_new' (Kd.R_new' ho2 (Kd.R_lt (ra_ HO620))) (Kd.R_lt (ra_ HO623))) (below_size (bb2_ HB GE608 GE609)))
        have n5_ := Aside0.mk (lb_ BK608 hb)
        have n6_ := Aside0.mk (lb_ BK609 hb)
        have n7_ := Aside0.mk (below_step (bb2_ HB GE608 GE609) hb)
        clear HO620
        clear HO623
        clear BK608
        clear BK609
        clear HB
        have HO620 := n0_
        have HO623 := n1_
        have HO630 := n2_
        have HO633 := n3_
        have HO636 := n4_
        have BK608 := n5_
        have BK609 := n6_
        have HB := n7_
        clear n0_ n1_ n2_ n3_ n4_ n5_ n6_ n7_
        (try clear hb)
        (try clear hb2)
        (try clear hk)
        (try clear hi)
        (try clear ho0)
        (try clear ho1)
        (try clear ho2)
        obtain ⟨Ao36, co36, eo36⟩ := Kd.R_slice HO630.out
        (first | subst eo36 | (injection eo36 with f1_ f2_ f3_; have f4_ := f1_.symm; have f5_ := f3_.symm; clear f1_ f2_ f3_; subst f4_; subst f5_))
        obtain ⟨Ao38, co38, eo38⟩ := Kd.R_slice HO633.out
        (first | subst eo38 | (injection eo38 with f1_ f2_ f3_; have f4_ := f1_.symm; have f5_ := f3_.symm; clear f1_ f2_ f3_; subst f4_; subst f5_))
        obtain ⟨Ao40, co40, eo40⟩ := Kd.R_slice HO636.out
        (first | subst eo40 | (injection eo40 with f1_ f2_ f3_; have f4_ := f1_.symm; have f5_ := f3_.symm; clear f1_ f2_ f3_; subst f4_; subst f5_))
        refine hK.out _ _ ⟨(blk_cell BK608.out 0).trans rfl, (blk_cell BK608.out 1).trans rfl, (blk_cell BK608.out 2).trans rfl, ((HB.out.cell (World.block_lt_of_cell? w _ hw617_0)).trans hw617_0), ((HB.out.cell (World.block_lt_of_cell? w _ hw617_1)).trans hw617_1), ((HB.out.cell (World.block_lt_of_cell? w _ hw617_2)).trans hw617_2), ((HB.out.cell (World.block_lt_of_cell? w _ hw617_3)).trans hw617_3)⟩ (fun hHeld => ?_)
        clear hK K
        refine norm_ (a' := ?_) ?_ ?_
        rotate_left
        ·show Act.put _ (some 34) _ = _
         simp only [Act.put, List.setIfInBounds_toArray, List.set_cons_zero, List.set_cons_succ, i64_w, i32_w]
         rfl
        refine one_ (i := 19) (N := none) #[true, true, true, true, true, true, true, true, true, true, true, true, true, true, true, true, true, true, true, true, false] rfl rfl (one_of HT_.out (by kernel_rfl)) (by decide) (fun K hK => ?_)
        have hs37 : w35.cell? ⟨gb609, 0, none⟩ = some (.slice none 0 0) := (blk_cell BK609.out 0).trans rfl
        have hfs37 := blk_frozen BK609.out 0
        have hns37_0 := NB608_609.out
        have hms37_0 := NB609_608.out
        have hs39 : w35.cell? ⟨gb609, 1, none⟩ = some (.slice none 0 0) := (blk_cell BK609.out 1).trans rfl
        have hfs39 := blk_frozen BK609.out 1
        have hns39_0 := NB608_609.out
        have hms39_0 := NB609_608.out
        have hs41 : w35.cell? ⟨gb609, 2, none⟩ = some (.slice none 0 0) := (blk_cell BK609.out 2).trans rfl
        have hfs41 := blk_frozen BK609.out 2
        have hns41_0 := NB608_609.out
        have hms41_0 := NB609_608.out
        refine skip_ (w1 := ?_) (by rfl) rfl ?_ ?_
        rotate_left
        ·go_simp
         rfl
        refine hK.out _ _ ⟨((cell_far (p := ⟨gb609, _, none⟩) NB608_609.out _).trans (((cell_far (p := ⟨gb609, _, none⟩) NB608_609.out _).trans (((cell_far (p := ⟨gb609, _, none⟩) NB608_609.out _).trans (hHeld.1)))))), ((cell_far (p := ⟨gb609, _, none⟩) NB608_609.out _).trans (((cell_far (p := ⟨gb609, _, none⟩) NB608_609.out _).trans (((cell_far (p := ⟨gb609, _, none⟩) NB608_609.out _).trans (hHeld.2.1)))))), ((cell_far (p := ⟨gb609, _, none⟩) NB608_609.out _).trans (((cell_far (p := ⟨gb609, _, none⟩) NB608_609.out _).trans (((cell_far (p := ⟨gb609, _, none⟩) NB608_609.out _).trans (hHeld.2.2.1)))))), ((cell_far (p := ⟨gb609, _, none⟩) (by first | exact Nat.ne_of_lt (Nat.lt_of_lt_of_le (by have := World.block_lt_of_cell? _ _ hw617_0; first | rwa [add_block] at this | exact this) GW609.out) | (rw [add_block]; exact Nat.ne_of_lt (Nat.lt_of_lt_of_le (by have := World.block_lt_of_cell? _ _ hw617_0; first | rwa [add_block] at this | exact this) GW609.out)) | (show (Addr.add _ _).block ≠ _; rw [add_block]; exact Nat.ne_of_lt (Nat.lt_of_lt_of_le (by have := World.block_lt_of_cell? _ _ hw617_0; first | rwa [add_block] at this | exact this) GW609.out)) | (dsimp only; exact Nat.ne_of_lt (Nat.lt_of_lt_of_le (by have := World.block_lt_of_cell? _ _ hw617_0; first | rwa [add_block] at this | exact this) GW609.out))) _).trans (((cell_far (p := ⟨gb609, _, none⟩) (by first | exact Nat.ne_of_lt (Nat.lt_of_lt_of_le (by have := World.block_lt_of_cell? _ _ hw617_0; first | rwa [add_block] at this | exact this) GW609.out) | (rw [add_block]; exact Nat.ne_of_lt (Nat.lt_of_lt_of_le (by have := World.block_lt_of_cell? _ _ hw617_0; first | rwa [add_block] at this | exact this) GW609.out)) | (show (Addr.add _ _).block ≠ _; rw [add_block]; exact Nat.ne_of_lt (Nat.lt_of_lt_of_le (by have := World.block_lt_of_cell? _ _ hw617_0; first | rwa [add_block] at this | exact this) GW609.out)) | (dsimp only; exact Nat.ne_of_lt (Nat.lt_of_lt_of_le (by have := World.block_lt_of_cell? _ _ hw617_0; first | rwa [add_block] at this | exact this) GW609.out))) _).trans (((cell_far (p := ⟨gb609, _, none⟩) (by first | exact Nat.ne_of_lt (Nat.lt_of_lt_of_le (by have := World.block_lt_of_cell? _ _ hw617_0; first | rwa [add_block] at this | exact this) GW609.out) | (rw [add_block]; exact Nat.ne_of_lt (Nat.lt_of_lt_of_le (by have := World.block_lt_of_cell? _ _ hw617_0; first | rwa [add_block] at this | exact this) GW609.out)) | (show (Addr.add _ _).block ≠ _; rw [add_block]; exact Nat.ne_of_lt (Nat.lt_of_lt_of_le (by have := World.block_lt_of_cell? _ _ hw617_0; first | rwa [add_block] at this | exact this) GW609.out)) | (dsimp only; exact Nat.ne_of_lt (Nat.lt_of_lt_of_le (by have := World.block_lt_of_cell? _ _ hw617_0; first | rwa [add_block] at this | exact this) GW609.out))) _).trans (hHeld.2.2.2.1)))))), ((cell_far (p := ⟨gb609, _, none⟩) (by first | exact Nat.ne_of_lt (Nat.lt_of_lt_of_le (by have := World.block_lt_of_cell? _ _ hw617_1; first | rwa [add_block] at this | exact this) GW609.out) | (rw [add_block]; exact Nat.ne_of_lt (Nat.lt_of_lt_of_le (by have := World.block_lt_of_cell? _ _ hw617_1; first | rwa [add_block] at this | exact this) GW609.out)) | (show (Addr.add _ _).block ≠ _; rw [add_block]; exact Nat.ne_of_lt (Nat.lt_of_lt_of_le (by have := World.block_lt_of_cell? _ _ hw617_1; first | rwa [add_block] at this | exact this) GW609.out)) | (dsimp only; exact Nat.ne_of_lt (Nat.lt_of_lt_of_le (by have := World.block_lt_of_cell? _ _ hw617_1; first | rwa [add_block] at this | exact this) GW609.out))) _).trans (((cell_far (p := ⟨gb609, _, none⟩) (by first | exact Nat.ne_of_lt (Nat.lt_of_lt_of_le (by have := World.block_lt_of_cell? _ _ hw617_1; first | rwa [add_block] at this | exact this) GW609.out) | (rw [add_block]; exact Nat.ne_of_lt (Nat.lt_of_lt_of_le (by have := World.block_lt_of_cell? _ _ hw617_1; first | rwa [add_block] at this | exact this) GW609.out)) | (show (Addr.add _ _).block ≠ _; rw [add_block]; exact Nat.ne_of_lt (Nat.lt_of_lt_of_le (by have := World.block_lt_of_cell? _ _ hw617_1; first | rwa [add_block] at this | exact this) GW609.out)) | (dsimp only; exact Nat.ne_of_lt (Nat.lt_of_lt_of_le (by have := World.block_lt_of_cell? _ _ hw617_1; first | rwa [add_block] at this | exact this) GW609.out))) _).trans (((cell_far (p := ⟨gb609, _, none⟩) (by first | exact Nat.ne_of_lt (Nat.lt_of_lt_of_le (by have := World.block_lt_of_cell? _ _ hw617_1; first | rwa [add_block] at this | exact this) GW609.out) | (rw [add_block]; exact Nat.ne_of_lt (Nat.lt_of_lt_of_le (by have := World.block_lt_of_cell? _ _ hw617_1; first | rwa [add_block] at this | exact this) GW609.out)) | (show (Addr.add _ _).block ≠ _; rw [add_block]; exact Nat.ne_of_lt (Nat.lt_of_lt_of_le (by have := World.block_lt_of_cell? _ _ hw617_1; first | rwa [add_block] at this | exact this) GW609.out)) | (dsimp only; exact Nat.ne_of_lt (Nat.lt_of_lt_of_le (by have := World.block_lt_of_cell? _ _ hw617_1; first | rwa [add_block] at this | exact this) GW609.out))) _).trans (hHeld.2.2.2.2.1)))))), ((cell_far (p := ⟨gb609, _, none⟩) (by first | exact Nat.ne_of_lt (Nat.lt_of_lt_of_le (by have := World.block_lt_of_cell? _ _ hw617_2; first | rwa [add_block] at this | exact this) GW609.out) | (rw [add_block]; exact Nat.ne_of_lt (Nat.lt_of_lt_of_le (by have := World.block_lt_of_cell? _ _ hw617_2; first | rwa [add_block] at this | exact this) GW609.out)) | (show (Addr.add _ _).block ≠ _; rw [add_block]; exact Nat.ne_of_lt (Nat.lt_of_lt_of_le (by have := World.block_lt_of_cell? _ _ hw617_2; first | rwa [add_block] at this | exact this) GW609.out)) | (dsimp only; exact Nat.ne_of_lt (Nat.lt_of_lt_of_le (by have := World.block_lt_of_cell? _ _ hw617_2; first | rwa [add_block] at this | exact this) GW609.out))) _).trans (((cell_far (p := ⟨gb609, _, none⟩) (by first | exact Nat.ne_of_lt (Nat.lt_of_lt_of_le (by have := World.block_lt_of_cell? _ _ hw617_2; first | rwa [add_block] at this | exact this) GW609.out) | (rw [add_block]; exact Nat.ne_of_lt (Nat.lt_of_lt_of_le (by have := World.block_lt_of_cell? _ _ hw617_2; first | rwa [add_block] at this | exact this) GW609.out)) | (show (Addr.add _ _).block ≠ _; rw [add_block]; exact Nat.ne_of_lt (Nat.lt_of_lt_of_le (by have := World.block_lt_of_cell? _ _ hw617_2; first | rwa [add_block] at this | exact this) GW609.out)) | (dsimp only; exact Nat.ne_of_lt (Nat.lt_of_lt_of_le (by have := World.block_lt_of_cell? _ _ hw617_2; first | rwa [add_block] at this | exact this) GW609.out))) _).trans (((cell_far (p := ⟨gb609, _, none⟩) (by first | exact Nat.ne_of_lt (Nat.lt_of_lt_of_le (by have := World.block_lt_of_cell? _ _ hw617_2; first | rwa [add_block] at this | exact this) GW609.out) | (rw [add_block]; exact Nat.ne_of_lt (Nat.lt_of_lt_of_le (by have := World.block_lt_of_cell? _ _ hw617_2; first | rwa [add_block] at this | exact this) GW609.out)) | (show (Addr.add _ _).block ≠ _; rw [add_block]; exact Nat.ne_of_lt (Nat.lt_of_lt_of_le (by have := World.block_lt_of_cell? _ _ hw617_2; first | rwa [add_block] at this | exact this) GW609.out)) | (dsimp only; exact Nat.ne_of_lt (Nat.lt_of_lt_of_le (by have := World.block_lt_of_cell? _ _ hw617_2; first | rwa [add_block] at this | exact this) GW609.out))) _).trans (hHeld.2.2.2.2.2.1)))))), ((cell_far (p := ⟨gb609, _, none⟩) (by first | exact Nat.ne_of_lt (Nat.lt_of_lt_of_le (by have := World.block_lt_of_cell? _ _ hw617_3; first | rwa [add_block] at this | exact this) GW609.out) | (rw [add_block]; exact Nat.ne_of_lt (Nat.lt_of_lt_of_le (by have := World.block_lt_of_cell? _ _ hw617_3; first | rwa [add_block] at this | exact this) GW609.out)) | (show (Addr.add _ _).block ≠ _; rw [add_block]; exact Nat.ne_of_lt (Nat.lt_of_lt_of_le (by have := World.block_lt_of_cell? _ _ hw617_3; first | rwa [add_block] at this | exact this) GW609.out)) | (dsimp only; exact Nat.ne_of_lt (Nat.lt_of_lt_of_le (by have := World.block_lt_of_cell? _ _ hw617_3; first | rwa [add_block] at this | exact this) GW609.out))) _).trans (((cell_far (p := ⟨gb609, _, none⟩) (by first | exact Nat.ne_of_lt (Nat.lt_of_lt_of_le (by have := World.block_lt_of_cell? _ _ hw617_3; first | rwa [add_block] at this | exact this) GW609.out) | (rw [add_block]; exact Nat.ne_of_lt (Nat.lt_of_lt_of_le (by have := World.block_lt_of_cell? _ _ hw617_3; first | rwa [add_block] at this | exact this) GW609.out)) | (show (Addr.add _ _).block ≠ _; rw [add_block]; exact Nat.ne_of_lt (Nat.lt_of_lt_of_le (by have := World.block_lt_of_cell? _ _ hw617_3; first | rwa [add_block] at this | exact this) GW609.out)) | (dsimp only; exact Nat.ne_of_lt (Nat.lt_of_lt_of_le (by have := World.block_lt_of_cell? _ _ hw617_3; first | rwa [add_block] at this | exact this) GW609.out))) _).trans (((cell_far (p := ⟨gb609, _, none⟩) (by first | exact Nat.ne_of_lt (Nat.lt_of_lt_of_le (by have := World.block_lt_of_cell? _ _ hw617_3; first | rwa [add_block] at this | exact this) GW609.out) | (rw [add_block]; exact Nat.ne_of_lt (Nat.lt_of_lt_of_le (by have := World.block_lt_of_cell? _ _ hw617_3; first | rwa [add_block] at this | exact this) GW609.out)) | (show (Addr.add _ _).block ≠ _; rw [add_block]; exact Nat.ne_of_lt (Nat.lt_of_lt_of_le (by have := World.block_lt_of_cell? _ _ hw617_3; first | rwa [add_block] at this | exact this) GW609.out)) | (dsimp only; exact Nat.ne_of_lt (Nat.lt_of_lt_of_le (by have := World.block_lt_of_cell? _ _ hw617_3; first | rwa [add_block] at this | exact this) GW609.out))) _).trans (hHeld.2.2.2.2.2.2))))))⟩ (fun hHeld => ?_)
        clear hK K
        refine pure_ (i := 20) (N := some 3) (v := ?_) (a' := ?_) #[true, true, true, true, true, true, true, true, true, true, true, true, true, true, true, true, true, true, true, true, true] rfl rfl (any_of HT_.out (by kernel_rfl)) (fun _ _ _ h => h) (Or.inl ⟨by rfl, ?_⟩) ?_ ?_
        rotate_left
        ·intro w'
         go_simp
         with_reducible rfl
        rotate_left
        ·simp only [Act.put, List.setIfInBounds_toArray, List.set_cons_zero, List.set_cons_succ, i64_w, i32_w]
         rfl
        refine done_ (done_of HT_.out (by kernel_rfl)) ?_
        try go_wp2
        refine bodyPost_ret (results_ct rfl _ _ gb609 35 #[.slice Ao36 t628.length co36, .slice Ao38 t631.length co38, .slice Ao40 t634.length co40] (0, 0) _ rfl (by (with_reducible repeat (first | apply lN_ | apply lD_ | apply lA_)); refine blk_put (cs := #[.slice Ao36 t628.length co36, .slice Ao38 t631.length co38, .slice none 0 0]) ?_ 2 _ rfl; (with_reducible repeat (first | apply lN_ | apply lD_ | apply lA_)); refine blk_put (cs := #[.slice Ao36 t628.length co36, .slice none 0 0, .slice none 0 0]) ?_ 1 _ rfl; (with_reducible repeat (first | apply lN_ | apply lD_ | apply lA_)); refine blk_put (cs := #[.slice none 0 0, .slice none 0 0, .slice none 0 0]) ?_ 0 _ rfl; (with_reducible repeat (first | apply lN_ | apply lD_ | apply lA_)); exact BK609.out) Try.underlying35 rfl (by kernel_rfl)) rfl ?_
        exact ⟨_, _, _, by first | rfl | (simp [errW_none, errW_some] <;> rfl) | (simp only [← hji12]; first | rfl | (simp [errW_none, errW_some] <;> rfl)) | (simp [*, errW_none, errW_some] <;> rfl), by (with_reducible repeat (first | apply rA_ | apply rN_ | apply rD_)); exact Kd.R_mono (fr_ (fr_ (fr_ (ft_ HO630 BK609) 0 (.slice Ao36 t628.length co36)) 1 (.slice Ao38 t631.length co38)) 2 (.slice Ao40 t634.length co40)) (fun _ hk => trivial), by (with_reducible repeat (first | apply rA_ | apply rN_ | apply rD_)); exact Kd.R_mono (fr_ (fr_ (fr_ (ft_ HO633 BK609) 0 (.slice Ao36 t628.length co36)) 1 (.slice Ao38 t631.length co38)) 2 (.slice Ao40 t634.length co40)) (fun _ hk => hk.1.1.1), by (with_reducible repeat (first | apply rA_ | apply rN_ | apply rD_)); exact Kd.R_mono (fr_ (fr_ (fr_ (ft_ HO636 BK609) 0 (.slice Ao36 t628.length co36)) 1 (.slice Ao38 t631.length co38)) 2 (.slice Ao40 t634.length co40)) (fun _ hk => hk.1.1.1), bb2_ HB GE608 GE609⟩
       ·rw [if_neg c17] at H
        exact absurd H (by simp)
      ·rw [if_neg c15] at H
       exact absurd H (by simp)
     ·rw [if_neg c14] at H
      exact absurd H (by simp)
    ·rw [if_neg c13] at H
     exact absurd H (by simp)
   ·rw [if_neg c11] at H
    exact absurd H (by simp)
 ·replace c3 := Bool.eq_false_iff.mpr c3
  subst c3
  have H1 : (some (([] : List ByteArray), ([] : List (S25)), ([] : List (S25)), false)) = some (r1, r2, r3, r4) := by rw [if_neg (show ¬ (false = true) by decide)] at H; exact H
  clear H
  have H := H1
  clear H1
  simp only [Option.some.injEq, Prod.mk.injEq] at H
  obtain ⟨rfl, rfl, rfl, rfl⟩ := H
  go_enter Try.func37, Try.ntmps37
  go_wp2_with (first | ((with_reducible refine gate_dst (N := 1) rfl ?_); refine box_event ?hg (N := 1) ?hd (cs := #[.slice A0_0 l0_0.length c0_0, .slice A0_1 l0_1.length c0_1, .slice A0_2 l0_2.length c0_2]) (t := 35) ?hr ?_; (case hd => rfl); (case hg => rfl); (case hr => first | (go_simp; done) | (go_simp; rfl)); intro gb608 hg w42 hbox hb; have n0_ := Aside0.mk (bt_ HB hb); have n1_ := Aside0.mk (hbox); have n2_ := Aside0.mk ((by rw [hg]; exact (bz_ HB) : w.heap.size ≤ gb608)); have n3_ := Aside0.mk ((by rw [hg]; exact (bz_ HB) : w.heap.size ≤ gb608)); clear HB; have HB := n0_; have BK608 := n1_; have GW608 := n2_; have GE608 := n3_; clear n0_ n1_ n2_ n3_; clear hb hbox hg) | ((with_reducible refine gate_dst (N := 2) rfl ?_); refine box_event ?hg (N := 2) ?hd (cs := #[.slice none 0 0, .slice none 0 0, .slice none 0 0]) (t := 35) ?hr ?_; (case hd => rfl); (case hg => rfl); (case hr => first | (go_simp; done) | (go_simp; rfl)); intro gb609 hg w43 hbox hb; have n0_ := Aside0.mk (lb_ BK608 hb); have n1_ := Aside0.mk (below_step (bb1_ HB GE608) hb); have n2_ := Aside0.mk (hbox); have n3_ := Aside0.mk ((by rw [hg]; exact (below_size (bb1_ HB GE608)) : w.heap.size ≤ gb609)); have n4_ := Aside0.mk ((by rw [hg]; exact (below_size (bb1_ HB GE608)) : w.heap.size ≤ gb609)); have n5_ := Aside0.mk ((by rw [hg]; exact Nat.ne_of_lt (blk_lt (g := gb608) (o := .cells #[.slice A0_0 l0_0.length c0_0, .slice A0_1 l0_1.length c0_1, .slice A0_2 l0_2.length c0_2] 35 (0, 0)) (la_ BK608)) : gb608 ≠ gb609)); have n6_ := Aside0.mk ((by rw [hg]; exact Nat.ne_of_gt (blk_lt (g := gb608) (o := .cells #[.slice A0_0 l0_0.length c0_0, .slice A0_1 l0_1.length c0_1, .slice A0_2 l0_2.length c0_2] 35 (0, 0)) (la_ BK608)) : gb609 ≠ gb608)); clear BK608; clear HB; have BK608 := n0_; have HB := n1_; have BK609 := n2_; have GW609 := n3_; have GE609 := n4_; have NB608_609 := n5_; have NB609_608 := n6_; clear n0_ n1_ n2_ n3_ n4_ n5_ n6_; clear hb hbox hg; have hnb44 := NB608_609.out; have hnc44 := NB609_608.out; have hcz45_0 : w43.cell? ⟨gb608, 0, none⟩ = some (.slice A0_0 l0_0.length c0_0) := (blk_cell BK608.out 0).trans rfl; have hcz45_1 : w43.cell? ⟨gb608, 1, none⟩ = some (.slice A0_1 l0_1.length c0_1) := (blk_cell BK608.out 1).trans rfl; have hcz45_2 : w43.cell? ⟨gb608, 2, none⟩ = some (.slice A0_2 l0_2.length c0_2) := (blk_cell BK608.out 2).trans rfl; have hfz45_0 := blk_frozen BK608.out 0; have hfz45_1 := blk_frozen BK608.out 1; have hfz45_2 := blk_frozen BK608.out 2) | ((with_reducible refine gate_callee (f := 59) rfl ?_); refine goesL_ (some 9) rfl rfl Try.func59 (by kernel_rfl) rfl #[.agg #[.slice A0_0 l0_0.length c0_0, .slice A0_1 l0_1.length c0_1, .slice A0_2 l0_2.length c0_2]] rfl args_ ?_; (with_reducible refine (spec_unGood.calls k _ _ l0_0 _ _ l0_1 _ _ l0_2 false _ ?side1 ?side2 ?side3 ?side4 ?side5 ?side6 A2.out).mono ?_); (case side1 => repeat (first | exact (Kd.C_below HR0_0.out HB.out) | (with_reducible first | apply cA_ | apply cN_ | apply cD_))); (case side2 => exact HC0_0.out); (case side3 => repeat (first | exact (Kd.C_below HR0_1.out HB.out) | (with_reducible first | apply cA_ | apply cN_ | apply cD_))); (case side4 => exact HC0_1.out); (case side5 => repeat (first | exact (Kd.C_below HR0_2.out HB.out) | (with_reducible first | apply cA_ | apply cN_ | apply cD_))); (case side6 => exact HC0_2.out); rintro e w46 ⟨rfl, hb⟩; refine ⟨_, rfl, ?_⟩; have n0_ := Aside0.mk (lb_ BK608 hb); have n1_ := Aside0.mk (lb_ BK609 hb); have n2_ := Aside0.mk (below_step (bb2_ HB GE608 GE609) hb); clear BK608; clear BK609; clear HB; have BK608 := n0_; have BK609 := n1_; have HB := n2_; clear n0_ n1_ n2_; (try clear hb); (try clear hb2); (try clear hk); (try clear hi); have hcz47_0 : w46.cell? ⟨gb609, 0, none⟩ = some (.slice none 0 0) := (blk_cell BK609.out 0).trans rfl; have hcz47_1 : w46.cell? ⟨gb609, 1, none⟩ = some (.slice none 0 0) := (blk_cell BK609.out 1).trans rfl; have hcz47_2 : w46.cell? ⟨gb609, 2, none⟩ = some (.slice none 0 0) := (blk_cell BK609.out 2).trans rfl; have hfz47_0 := blk_frozen BK609.out 0; have hfz47_1 := blk_frozen BK609.out 1; have hfz47_2 := blk_frozen BK609.out 2))
  refine bodyPost_ret (results_ct rfl _ _ gb609 35 #[.slice none 0 0, .slice none 0 0, .slice none 0 0] (0, 0) _ rfl (by (with_reducible repeat (first | apply lN_ | apply lD_ | apply lA_)); refine blk_put (cs := #[.slice none 0 0, .slice none 0 0, .slice none 0 0]) ?_ 2 _ rfl; (with_reducible repeat (first | apply lN_ | apply lD_ | apply lA_)); refine blk_put (cs := #[.slice none 0 0, .slice none 0 0, .slice none 0 0]) ?_ 1 _ rfl; (with_reducible repeat (first | apply lN_ | apply lD_ | apply lA_)); refine blk_put (cs := #[.slice none 0 0, .slice none 0 0, .slice none 0 0]) ?_ 0 _ rfl; (with_reducible repeat (first | apply lN_ | apply lD_ | apply lA_)); exact BK609.out) Try.underlying35 rfl (by kernel_rfl)) rfl ?_
  exact ⟨_, _, _, by first | rfl | (simp [errW_none, errW_some] <;> rfl) | (simp [*, errW_none, errW_some] <;> rfl), by first | exact Kd.R_nil _ _ _ _ _ | exact Kd.N_nil _ _ _ _ _ | exact Kd.V_nil _ _ _ _ _ | exact Kd.Q_nil _ _ _ _ _ | exact Kd.S_nil _ _ _ _ _, by first | exact Kd.R_nil _ _ _ _ _ | exact Kd.N_nil _ _ _ _ _ | exact Kd.V_nil _ _ _ _ _ | exact Kd.Q_nil _ _ _ _ _ | exact Kd.S_nil _ _ _ _ _, by first | exact Kd.R_nil _ _ _ _ _ | exact Kd.N_nil _ _ _ _ _ | exact Kd.V_nil _ _ _ _ _ | exact Kd.Q_nil _ _ _ _ _ | exact Kd.S_nil _ _ _ _ _, bb2_ HB GE608 GE609⟩

/-! ### impl_RedoEdit: function 38 -/
def impl_RedoEdit.j0 : Nat → Int → Bool → List ByteArray → List (S25) → List (S25) → Option (List ByteArray × (List (S25)) × (List (S25)) × Bool)
 | 0, _, _, _, _, _ => none
 | k + 1, x4, x15, x638000, x638001, x638002 => if x15 = true then (some (([] : List ByteArray), ([] : List (S25)), ([] : List (S25)), false)) else ((slices_Clone_string_string.f x638000).bind fun t640 => ((impl_DeskEdit_69.f x638001).bind fun t643 => (if 0 ≤ x4 then (if x4 < (x638002.length : Int) then ((some (([(⟨(rd_T25 x638002 x4).f0, (rd_T25 x638002 x4).f1, (rd_T25 x638002 x4).f2, (rd_T25 x638002 x4).f3⟩ : S25)] : List (S25)) : List (S25))).bind fun y647 => (if t643.length + y647.length < 2932031007402 then (if x4 ≤ (x638002.length : Int) then ((impl_DeskEdit_69.f (x638002.take (x4 : Int).toNat)).bind fun t657 => (some (t640, (t643 ++ y647), t657, true))) else (none)) else (none))) else (none)) else (none))))
def impl_RedoEdit.f (k : Nat) (l0_0 : List ByteArray) (l0_1 : List (S25)) (l0_2 : List (S25)) : Option (List ByteArray × (List (S25)) × (List (S25)) × Bool) := (impl_IsDesk.f k l0_0 l0_1 l0_2).bind fun t639 => (if t639 = true then (impl_RedoEdit.j0 k (wrap64 ((l0_2.length : Int) - 1)) (decide ((wrap64 ((l0_2.length : Int) - 1)) < 0)) l0_0 l0_1 l0_2) else (impl_RedoEdit.j0 k (wrap64 ((l0_2.length : Int) - 1)) true l0_0 l0_1 l0_2))
theorem impl_RedoEdit.mono_l : ∀ k, (∀ y0 y1 y2 y3 y4, LeO (impl_RedoEdit.j0 k y0 y1 y2 y3 y4) (impl_RedoEdit.j0 (k + 1) y0 y1 y2 y3 y4))
 | 0 => fun _ _ _ _ _ r h => by simp [impl_RedoEdit.j0] at h
 | k + 1 => by
  have ih0 := impl_RedoEdit.mono_l k
  ·intro y0 y1 y2 y3 y4
   unfold impl_RedoEdit.j0
   repeat' first
   | (with_reducible exact ih0 _ _ _ _ _)
   | (with_reducible exact impl_IsDesk.mono _ _ _ _)
   | (with_reducible exact LeO.refl _)
   | (with_reducible exact LeO.none _)
   | (with_reducible refine LeO.ite ?_ ?_)
   | (with_reducible refine LeO.bind ?_ (fun _ => ?_))
   | exact ih0 _ _ _ _ _
   | exact LeO.none _
   | refine LeO.ite ?_ ?_
   | refine LeO.bind ?_ (fun _ => ?_)
theorem impl_RedoEdit.mono : ∀ a0 a1 a2 k, LeO (impl_RedoEdit.f k a0 a1 a2) (impl_RedoEdit.f (k + 1) a0 a1 a2) := by
 intro a0 a1 a2 k
 have ih0 := impl_RedoEdit.mono_l k
 unfold impl_RedoEdit.f
 repeat' first
   | (with_reducible exact ih0 _ _ _ _ _)
   | (with_reducible exact impl_IsDesk.mono _ _ _ _)
   | (with_reducible exact LeO.refl _)
   | (with_reducible exact LeO.none _)
   | (with_reducible refine LeO.ite ?_ ?_)
   | (with_reducible refine LeO.bind ?_ (fun _ => ?_))
   | exact ih0 _ _ _ _ _
   | exact LeO.none _
   | refine LeO.ite ?_ ?_
   | refine LeO.bind ?_ (fun _ => ?_)
def impl_RedoEdit.T4 : Bool × List (List Nat × List Nat) := (true, [([], []), ([0], [0]), ([1], [1]), ([], []), ([3], [3]), ([4, 2], [4]), ([], []), ([6], [6]), ([], []), ([7, 8], [7, 8]), ([9], [9]), ([10], [10]), ([5, 11, 5], [5, 11]), ([], []), ([13], [13]), ([], []), ([14, 15], [14, 15]), ([16, 12], [16]), ([2, 12, 17], [2, 12, 17]), ([18, 17, 0, 1, 2, 3, 4, 5, 6, 7, 8, 9, 10, 11, 12, 13, 14, 15, 16, 17, 18], [18]), ([19, 0, 1, 2, 3, 4, 5, 6, 7, 8, 9, 10, 11, 12, 13, 14, 15, 16, 17, 18, 19], [])])
def impl_RedoEdit.B4 : List Nat := [0, 1, 3, 0, 8, 31, 0, 64, 0, 448, 960, 1984, 4095, 0, 8192, 0, 57344, 131071, 262143, 524287, 1048575]
theorem impl_RedoEdit.tab4 : rtab .any (opsOf Try.f38 4) = impl_RedoEdit.T4 := by kernel_rfl
theorem impl_RedoEdit.bits4 : waitsOk impl_RedoEdit.T4.2 impl_RedoEdit.B4 = true := by kernel_rfl
set_option maxHeartbeats 8000000 in
set_option maxRecDepth 100000 in
theorem impl_RedoEdit.calls (k : Nat) (A0_0 : Option Addr) (c0_0 : Nat) (l0_0 : List ByteArray) (A0_1 : Option Addr) (c0_1 : Nat) (l0_1 : List (S25)) (A0_2 : Option Addr) (c0_2 : Nat) (l0_2 : List (S25)) (r1 : List ByteArray) (r2 : List (S25)) (r3 : List (S25)) (r4 : Bool) (w : World) (hr0_0 : Kd.C Kd.string w A0_0 l0_0.length l0_0) (hc0_0 : l0_0.length ≤ c0_0) (hr0_1 : Kd.C k25 w A0_1 l0_1.length l0_1) (hc0_1 : l0_1.length ≤ c0_1) (hr0_2 : Kd.C k25 w A0_2 l0_2.length l0_2) (hc0_2 : l0_2.length ≤ c0_2) (h : impl_RedoEdit.f k l0_0 l0_1 l0_2 = some (r1, r2, r3, r4)) :
  Calls Try.prog 38 #[.agg #[.slice A0_0 l0_0.length c0_0, .slice A0_1 l0_1.length c0_1, .slice A0_2 l0_2.length c0_2]] w fun e w' => ∃ v0_ v1_ v2_ : Value, e = .returned (.tuple #[.agg #[v0_, v1_, v2_], .bool r4]) ∧ Kd.R Kd.string 9 w' w.heap.size (fun _ => True) v0_ r1 ∧ Kd.R k25 25 w' w.heap.size (fun k_ => some k_ ≠ (v2_ : Value).ownBlock) v1_ r2 ∧ Kd.R k25 25 w' w.heap.size (fun k_ => some k_ ≠ (v1_ : Value).ownBlock) v2_ r3 ∧ Below w.heap.size w w' := by
 have hu35 := Try.underlying35
 have hu25 := Try.underlying25
 have HR0_0 := Aside0.mk hr0_0
 have HC0_0 := Aside0.mk hc0_0
 clear hr0_0 hc0_0
 have HR0_1 := Aside0.mk hr0_1
 have HC0_1 := Aside0.mk hc0_1
 clear hr0_1 hc0_1
 have HR0_2 := Aside0.mk hr0_2
 have HC0_2 := Aside0.mk hc0_2
 clear hr0_2 hc0_2
 have HB := Aside0.mk (Below.refl w.heap.size w)
 have H : ((impl_IsDesk.f k l0_0 l0_1 l0_2).bind fun t639 => (if t639 = true then (impl_RedoEdit.j0 k (wrap64 ((l0_2.length : Int) - 1)) (decide ((wrap64 ((l0_2.length : Int) - 1)) < 0)) l0_0 l0_1 l0_2) else (impl_RedoEdit.j0 k (wrap64 ((l0_2.length : Int) - 1)) true l0_0 l0_1 l0_2))) = some (r1, r2, r3, r4) := h
 clear h
 have HC2 := Aside0.mk H
 clear H
 go_enter Try.func38, Try.ntmps38
 go_upto_region 2 with (first | ((with_reducible refine gate_dst (N := 1) rfl ?_); refine box_event ?hg (N := 1) ?hd (cs := #[.slice A0_0 l0_0.length c0_0, .slice A0_1 l0_1.length c0_1, .slice A0_2 l0_2.length c0_2]) (t := 35) ?hr ?_; (case hd => rfl); (case hg => rfl); (case hr => first | (go_simp; done) | (go_simp; rfl)); intro gb637 hg w3 hbox hb; have n0_ := Aside0.mk (bt_ HB hb); have n1_ := Aside0.mk (hbox); have n2_ := Aside0.mk ((by rw [hg]; exact (bz_ HB) : w.heap.size ≤ gb637)); have n3_ := Aside0.mk ((by rw [hg]; exact (bz_ HB) : w.heap.size ≤ gb637)); clear HB; have HB := n0_; have BK637 := n1_; have GW637 := n2_; have GE637 := n3_; clear n0_ n1_ n2_ n3_; clear hb hbox hg) | ((with_reducible refine gate_dst (N := 2) rfl ?_); refine box_event ?hg (N := 2) ?hd (cs := #[.slice none 0 0, .slice none 0 0, .slice none 0 0]) (t := 35) ?hr ?_; (case hd => rfl); (case hg => rfl); (case hr => first | (go_simp; done) | (go_simp; rfl)); intro gb638 hg w4 hbox hb; have n0_ := Aside0.mk (lb_ BK637 hb); have n1_ := Aside0.mk (below_step (bb1_ HB GE637) hb); have n2_ := Aside0.mk (hbox); have n3_ := Aside0.mk ((by rw [hg]; exact (below_size (bb1_ HB GE637)) : w.heap.size ≤ gb638)); have n4_ := Aside0.mk ((by rw [hg]; exact (below_size (bb1_ HB GE637)) : w.heap.size ≤ gb638)); have n5_ := Aside0.mk ((by rw [hg]; exact Nat.ne_of_lt (blk_lt (g := gb637) (o := .cells #[.slice A0_0 l0_0.length c0_0, .slice A0_1 l0_1.length c0_1, .slice A0_2 l0_2.length c0_2] 35 (0, 0)) (la_ BK637)) : gb637 ≠ gb638)); have n6_ := Aside0.mk ((by rw [hg]; exact Nat.ne_of_gt (blk_lt (g := gb637) (o := .cells #[.slice A0_0 l0_0.length c0_0, .slice A0_1 l0_1.length c0_1, .slice A0_2 l0_2.length c0_2] 35 (0, 0)) (la_ BK637)) : gb638 ≠ gb637)); clear BK637; clear HB; have BK637 := n0_; have HB := n1_; have BK638 := n2_; have GW638 := n3_; have GE638 := n4_; have NB637_638 := n5_; have NB638_637 := n6_; clear n0_ n1_ n2_ n3_ n4_ n5_ n6_; clear hb hbox hg; have hnb5 := NB637_638.out; have hnc5 := NB638_637.out; have hcz6_0 : w4.cell? ⟨gb637, 0, none⟩ = some (.slice A0_0 l0_0.length c0_0) := (blk_cell BK637.out 0).trans rfl; have hcz6_1 : w4.cell? ⟨gb637, 1, none⟩ = some (.slice A0_1 l0_1.length c0_1) := (blk_cell BK637.out 1).trans rfl; have hcz6_2 : w4.cell? ⟨gb637, 2, none⟩ = some (.slice A0_2 l0_2.length c0_2) := (blk_cell BK637.out 2).trans rfl; have hfz6_0 := blk_frozen BK637.out 0; have hfz6_1 := blk_frozen BK637.out 1; have hfz6_2 := blk_frozen BK637.out 2))
 (try simp only [Act.put, List.setIfInBounds_toArray, List.set_cons_zero, List.set_cons_succ])
 go_cut [15] (fun v15 wc => ∃ (kq : Nat) (x15_1 : Bool), v15 = .bool x15_1 ∧ Aside0 (impl_RedoEdit.j0 kq (wrap64 ((l0_2.length : Int) - 1)) x15_1 l0_0 l0_1 l0_2 = some (r1, r2, r3, r4)) ∧ Aside0 (kq ≤ k) ∧ Aside0 (wc.heap[gb637]? = some (.cells #[(.slice A0_0 l0_0.length c0_0), (.slice A0_1 l0_1.length c0_1), (.slice A0_2 l0_2.length c0_2)] 35 (0, 0))) ∧ Aside0 (wc.heap[gb638]? = some (.cells #[(.slice none 0 0), (.slice none 0 0), (.slice none 0 0)] 35 (0, 0))) ∧ Aside0 (Below w.heap.size w wc))
 case first =>
  have H := HC2.out
  clear HC2
  replace H := Option.bind_eq_some_iff.mp H
  obtain ⟨t639, A70, H⟩ := H
  try dsimp only at H
  have A7 := Aside0.mk A70
  clear A70
  by_cases c8 : t639 = true
  ·subst c8
   have H1 : (impl_RedoEdit.j0 k (wrap64 ((l0_2.length : Int) - 1)) (decide ((wrap64 ((l0_2.length : Int) - 1)) < 0)) l0_0 l0_1 l0_2) = some (r1, r2, r3, r4) := by rw [if_pos rfl] at H; exact H
   clear H
   have H := H1
   clear H1
   have H' := Aside0.mk H
   clear H
   have hnb9 := NB637_638.out
   have hnc9 := NB638_637.out
   have hcz10_0 : w4.cell? ⟨gb637, 0, none⟩ = some (.slice A0_0 l0_0.length c0_0) := (blk_cell BK637.out 0).trans rfl
   have hcz10_1 : w4.cell? ⟨gb637, 1, none⟩ = some (.slice A0_1 l0_1.length c0_1) := (blk_cell BK637.out 1).trans rfl
   have hcz10_2 : w4.cell? ⟨gb637, 2, none⟩ = some (.slice A0_2 l0_2.length c0_2) := (blk_cell BK637.out 2).trans rfl
   have hfz10_0 := blk_frozen BK637.out 0
   have hfz10_1 := blk_frozen BK637.out 1
   have hfz10_2 := blk_frozen BK637.out 2
   go_wp2_with (first | ((with_reducible refine gate_callee (f := 31) rfl ?_); refine goesL_ (some 10) rfl rfl Try.func31 (by kernel_rfl) rfl #[.agg #[.slice A0_0 l0_0.length c0_0, .slice A0_1 l0_1.length c0_1, .slice A0_2 l0_2.length c0_2]] rfl args_ ?_; (with_reducible refine (impl_IsDesk.calls k _ _ l0_0 _ _ l0_1 _ _ l0_2 true _ ?side1 ?side2 ?side3 ?side4 ?side5 ?side6 A7.out).mono ?_); (case side1 => repeat (first | exact (Kd.C_below HR0_0.out HB.out) | (with_reducible first | apply cA_ | apply cN_ | apply cD_))); (case side2 => exact HC0_0.out); (case side3 => repeat (first | exact (Kd.C_below HR0_1.out HB.out) | (with_reducible first | apply cA_ | apply cN_ | apply cD_))); (case side4 => exact HC0_1.out); (case side5 => repeat (first | exact (Kd.C_below HR0_2.out HB.out) | (with_reducible first | apply cA_ | apply cN_ | apply cD_))); (case side6 => exact HC0_2.out); rintro e w11 ⟨rfl, hb⟩; refine ⟨_, rfl, ?_⟩; have n0_ := Aside0.mk (lb_ BK637 hb); have n1_ := Aside0.mk (lb_ BK638 hb); have n2_ := Aside0.mk (below_step (bb2_ HB GE637 GE638) hb); clear BK637; clear BK638; clear HB; have BK637 := n0_; have BK638 := n1_; have HB := n2_; clear n0_ n1_ n2_; (try clear hb); (try clear hb2); (try clear hk); (try clear hi)))
   go_meet
   case rel => exact ⟨_, (decide ((wrap64 ((l0_2.length : Int) - 1)) < 0)), (by first | rfl | (simp; done) | (simp [*]; done)), H', ⟨by first | omega | exact Nat.le_refl _⟩, ⟨by (with_reducible repeat (first | apply lN_ | apply lD_ | apply lA_)); exact BK637.out⟩, ⟨by (with_reducible repeat (first | apply lN_ | apply lD_ | apply lA_)); exact BK638.out⟩, ⟨bb2_ HB GE637 GE638⟩⟩
  ·replace c8 := Bool.eq_false_iff.mpr c8
   subst c8
   have H1 : (impl_RedoEdit.j0 k (wrap64 ((l0_2.length : Int) - 1)) true l0_0 l0_1 l0_2) = some (r1, r2, r3, r4) := by rw [if_neg (show ¬ (false = true) by decide)] at H; exact H
   clear H
   have H := H1
   clear H1
   have H' := Aside0.mk H
   clear H
   have hnb12 := NB637_638.out
   have hnc12 := NB638_637.out
   have hcz13_0 : w4.cell? ⟨gb637, 0, none⟩ = some (.slice A0_0 l0_0.length c0_0) := (blk_cell BK637.out 0).trans rfl
   have hcz13_1 : w4.cell? ⟨gb637, 1, none⟩ = some (.slice A0_1 l0_1.length c0_1) := (blk_cell BK637.out 1).trans rfl
   have hcz13_2 : w4.cell? ⟨gb637, 2, none⟩ = some (.slice A0_2 l0_2.length c0_2) := (blk_cell BK637.out 2).trans rfl
   have hfz13_0 := blk_frozen BK637.out 0
   have hfz13_1 := blk_frozen BK637.out 1
   have hfz13_2 := blk_frozen BK637.out 2
   go_wp2_with (first | ((with_reducible refine gate_callee (f := 31) rfl ?_); refine goesL_ (some 10) rfl rfl Try.func31 (by kernel_rfl) rfl #[.agg #[.slice A0_0 l0_0.length c0_0, .slice A0_1 l0_1.length c0_1, .slice A0_2 l0_2.length c0_2]] rfl args_ ?_; (with_reducible refine (impl_IsDesk.calls k _ _ l0_0 _ _ l0_1 _ _ l0_2 false _ ?side1 ?side2 ?side3 ?side4 ?side5 ?side6 A7.out).mono ?_); (case side1 => repeat (first | exact (Kd.C_below HR0_0.out HB.out) | (with_reducible first | apply cA_ | apply cN_ | apply cD_))); (case side2 => exact HC0_0.out); (case side3 => repeat (first | exact (Kd.C_below HR0_1.out HB.out) | (with_reducible first | apply cA_ | apply cN_ | apply cD_))); (case side4 => exact HC0_1.out); (case side5 => repeat (first | exact (Kd.C_below HR0_2.out HB.out) | (with_reducible first | apply cA_ | apply cN_ | apply cD_))); (case side6 => exact HC0_2.out); rintro e w14 ⟨rfl, hb⟩; refine ⟨_, rfl, ?_⟩; have n0_ := Aside0.mk (lb_ BK637 hb); have n1_ := Aside0.mk (lb_ BK638 hb); have n2_ := Aside0.mk (below_step (bb2_ HB GE637 GE638) hb); clear BK637; clear BK638; clear HB; have BK637 := n0_; have BK638 := n1_; have HB := n2_; clear n0_ n1_ n2_; (try clear hb); (try clear hb2); (try clear hk); (try clear hi)))
   go_meet
   case rel => exact ⟨_, (true), (by first | rfl | (simp; done) | (simp [*]; done)), H', ⟨by first | omega | exact Nat.le_refl _⟩, ⟨by (with_reducible repeat (first | apply lN_ | apply lD_ | apply lA_)); exact BK637.out⟩, ⟨by (with_reducible repeat (first | apply lN_ | apply lD_ | apply lA_)); exact BK638.out⟩, ⟨bb2_ HB GE637 GE638⟩⟩
 case rest =>
  clear HC2
  try clear c1
  try clear p2
  try clear c3
  try clear c5
  try clear p6
  try clear c8
  try clear c9
  try clear c12
  try clear hcz10_0
  try clear hcz10_1
  try clear hcz10_2
  try clear hcz13_0
  try clear hcz13_1
  try clear hcz13_2
  try clear hcz6_0
  try clear hcz6_1
  try clear hcz6_2
  try clear hfz10_0
  try clear hfz10_1
  try clear hfz10_2
  try clear hfz13_0
  try clear hfz13_1
  try clear hfz13_2
  try clear hfz6_0
  try clear hfz6_1
  try clear hfz6_2
  obtain ⟨kq, x15_1, rfl, HA, HJ1, BK637, BK638, HB⟩ := hcut
  cases kq with
  | zero => exact absurd HA.out (by simp [impl_RedoEdit.j0])
  | succ kj1 =>
   have H := HA.out
   clear HA
   simp only [impl_RedoEdit.j0] at H
   by_cases c15 : x15_1 = true
   ·subst c15
    have H1 : (some (([] : List ByteArray), ([] : List (S25)), ([] : List (S25)), false)) = some (r1, r2, r3, r4) := by rw [if_pos rfl] at H; exact H
    clear H
    have H := H1
    clear H1
    simp only [Option.some.injEq, Prod.mk.injEq] at H
    obtain ⟨rfl, rfl, rfl, rfl⟩ := H
    have hnb16 := NB638_637.out
    have hnc16 := NB637_638.out
    have hcz17_0 : wc.cell? ⟨gb638, 0, none⟩ = some (.slice none 0 0) := (blk_cell BK638.out 0).trans rfl
    have hcz17_1 : wc.cell? ⟨gb638, 1, none⟩ = some (.slice none 0 0) := (blk_cell BK638.out 1).trans rfl
    have hcz17_2 : wc.cell? ⟨gb638, 2, none⟩ = some (.slice none 0 0) := (blk_cell BK638.out 2).trans rfl
    have hfz17_0 := blk_frozen BK638.out 0
    have hfz17_1 := blk_frozen BK638.out 1
    have hfz17_2 := blk_frozen BK638.out 2
    go_wp2
    refine bodyPost_ret (results_ct rfl _ _ gb638 35 #[.slice none 0 0, .slice none 0 0, .slice none 0 0] (0, 0) _ rfl (by (with_reducible repeat (first | apply lN_ | apply lD_ | apply lA_)); refine blk_put (cs := #[.slice none 0 0, .slice none 0 0, .slice none 0 0]) ?_ 2 _ rfl; (with_reducible repeat (first | apply lN_ | apply lD_ | apply lA_)); refine blk_put (cs := #[.slice none 0 0, .slice none 0 0, .slice none 0 0]) ?_ 1 _ rfl; (with_reducible repeat (first | apply lN_ | apply lD_ | apply lA_)); refine blk_put (cs := #[.slice none 0 0, .slice none 0 0, .slice none 0 0]) ?_ 0 _ rfl; (with_reducible repeat (first | apply lN_ | apply lD_ | apply lA_)); exact BK638.out) Try.underlying35 rfl (by kernel_rfl)) rfl ?_
    exact ⟨_, _, _, by first | rfl | (simp [errW_none, errW_some] <;> rfl) | (simp [*, errW_none, errW_some] <;> rfl), by first | exact Kd.R_nil _ _ _ _ _ | exact Kd.N_nil _ _ _ _ _ | exact Kd.V_nil _ _ _ _ _ | exact Kd.Q_nil _ _ _ _ _ | exact Kd.S_nil _ _ _ _ _, by first | exact Kd.R_nil _ _ _ _ _ | exact Kd.N_nil _ _ _ _ _ | exact Kd.V_nil _ _ _ _ _ | exact Kd.Q_nil _ _ _ _ _ | exact Kd.S_nil _ _ _ _ _, by first | exact Kd.R_nil _ _ _ _ _ | exact Kd.N_nil _ _ _ _ _ | exact Kd.V_nil _ _ _ _ _ | exact Kd.Q_nil _ _ _ _ _ | exact Kd.S_nil _ _ _ _ _, bb2_ HB GE637 GE638⟩
   ·replace c15 := Bool.eq_false_iff.mpr c15
    subst c15
    have H1 : ((slices_Clone_string_string.f l0_0).bind fun t640 => ((impl_DeskEdit_69.f l0_1).bind fun t643 => (if 0 ≤ (wrap64 ((l0_2.length : Int) - 1)) then (if (wrap64 ((l0_2.length : Int) - 1)) < (l0_2.length : Int) then ((some (([(⟨(rd_T25 l0_2 (wrap64 ((l0_2.length : Int) - 1))).f0, (rd_T25 l0_2 (wrap64 ((l0_2.length : Int) - 1))).f1, (rd_T25 l0_2 (wrap64 ((l0_2.length : Int) - 1))).f2, (rd_T25 l0_2 (wrap64 ((l0_2.length : Int) - 1))).f3⟩ : S25)] : List (S25)) : List (S25))).bind fun y647 => (if t643.length + y647.length < 2932031007402 then (if (wrap64 ((l0_2.length : Int) - 1)) ≤ (l0_2.length : Int) then ((impl_DeskEdit_69.f (l0_2.take ((wrap64 ((l0_2.length : Int) - 1)) : Int).toNat)).bind fun t657 => (some (t640, (t643 ++ y647), t657, true))) else (none)) else (none))) else (none)) else (none)))) = some (r1, r2, r3, r4) := by rw [if_neg (show ¬ (false = true) by decide)] at H; exact H
    clear H
    have H := H1
    clear H1
    replace H := Option.bind_eq_some_iff.mp H
    obtain ⟨t640, A180, H⟩ := H
    try dsimp only at H
    have A18 := Aside0.mk A180
    clear A180
    replace H := Option.bind_eq_some_iff.mp H
    obtain ⟨t643, A190, H⟩ := H
    try dsimp only at H
    have A19 := Aside0.mk A190
    clear A190
    obtain ⟨ji20, hji20⟩ : ∃ j_ : Int, (wrap64 ((l0_2.length : Int) - 1)) = j_ := ⟨_, rfl⟩
    replace H : (if 0 ≤ (ji20) then (if (ji20) < (l0_2.length : Int) then ((some (([(⟨(rd_T25 l0_2 (ji20)).f0, (rd_T25 l0_2 (ji20)).f1, (rd_T25 l0_2 (ji20)).f2, (rd_T25 l0_2 (ji20)).f3⟩ : S25)] : List (S25)) : List (S25))).bind fun y647 => (if t643.length + y647.length < 2932031007402 then (if (ji20) ≤ (l0_2.length : Int) then ((impl_DeskEdit_69.f (l0_2.take ((ji20) : Int).toNat)).bind fun t657 => (some (t640, (t643 ++ y647), t657, true))) else (none)) else (none))) else (none)) else (none)) = some (r1, r2, r3, r4) := by first | (rw [hji20] at H; exact H) | (simp only [hji20] at H ⊢; exact H)
    (try rw [hji20] at A18)
    (try rw [hji20] at A19)
    have hji20w : (IntKind.i64.wrap ((l0_2.length : Int) - 1)) = ji20 := (i64_w _).trans hji20
    by_cases c21 : 0 ≤ (ji20)
    ·rw [if_pos c21] at H
     have c21b0 : decide (0 ≤ (ji20)) = true := decide_eq_true c21
     clear c21
     by_cases c22 : (ji20) < (l0_2.length : Int)
     ·rw [if_pos c22] at H
      have c22b0 : decide ((ji20) < (l0_2.length : Int)) = true := decide_eq_true c22
      clear c22
      obtain ⟨y647, hy647⟩ : ∃ y_ : List (S25), y_ = (([(⟨(rd_T25 l0_2 (ji20)).f0, (rd_T25 l0_2 (ji20)).f1, (rd_T25 l0_2 (ji20)).f2, (rd_T25 l0_2 (ji20)).f3⟩ : S25)] : List (S25))) := ⟨_, rfl⟩
      replace H : (if t643.length + y647.length < 2932031007402 then (if (ji20) ≤ (l0_2.length : Int) then ((impl_DeskEdit_69.f (l0_2.take ((ji20) : Int).toNat)).bind fun t657 => (some (t640, (t643 ++ y647), t657, true))) else (none)) else (none)) = some (r1, r2, r3, r4) := by first | (rw [hy647]; with_reducible exact H) | (have H2_ := (Option.bind_some _ _).symm.trans H; rw [hy647]; with_reducible exact H2_) | (have H2_ := (Option.bind_some _ _).symm.trans H; with_reducible exact H2_) | with_reducible exact H | (rw [hy647]; exact H) | exact H
      have Ny647 := Aside0.mk hy647
      clear hy647
      by_cases c23 : t643.length + y647.length < 2932031007402
      ·rw [if_pos c23] at H
       have LMc23 := Aside0.mk c23
       clear c23
       obtain ⟨y650, hy650⟩ : ∃ y_ : List (S25), y_ = (t643 ++ y647) := ⟨_, rfl⟩
       replace H : (if (ji20) ≤ (l0_2.length : Int) then ((impl_DeskEdit_69.f (l0_2.take ((ji20) : Int).toNat)).bind fun t657 => (some (t640, y650, t657, true))) else (none)) = some (r1, r2, r3, r4) := by first | (rw [hy650]; with_reducible exact H) | (have H2_ := (Option.bind_some _ _).symm.trans H; rw [hy650]; with_reducible exact H2_) | (have H2_ := (Option.bind_some _ _).symm.trans H; with_reducible exact H2_) | with_reducible exact H | (rw [hy650]; exact H) | exact H
       have Ny650 := Aside0.mk hy650
       clear hy650
       have c24b0 := eq_true (of_decide_eq_true (by first | (with_reducible assumption) | assumption) : 0 ≤ (ji20))
       by_cases c25 : (ji20) ≤ (l0_2.length : Int)
       ·rw [if_pos c25] at H
        have c25b0 := eq_true c25
        have c25b1 : decide ((ji20) ≤ (l0_2.length : Int)) = true := decide_eq_true c25
        clear c25
        obtain ⟨y653, hy653⟩ : ∃ y_ : List (S25), y_ = (l0_2.take ((ji20) : Int).toNat) := ⟨_, rfl⟩
        replace H : ((impl_DeskEdit_69.f y653).bind fun t657 => (some (t640, y650, t657, true))) = some (r1, r2, r3, r4) := by first | (rw [hy653]; with_reducible exact H) | (have H2_ := (Option.bind_some _ _).symm.trans H; rw [hy653]; with_reducible exact H2_) | (have H2_ := (Option.bind_some _ _).symm.trans H; with_reducible exact H2_) | with_reducible exact H | (rw [hy653]; exact H) | exact H
        have Ny653 := Aside0.mk hy653
        clear hy653
        replace H := Option.bind_eq_some_iff.mp H
        obtain ⟨t657, A260, H⟩ := H
        try dsimp only at H
        have A26 := Aside0.mk A260
        clear A260
        simp only [Option.some.injEq, Prod.mk.injEq] at H
        obtain ⟨rfl, rfl, rfl, rfl⟩ := H
        try go_wp2
        have n0_ := Aside0.mk (blk_drew BK637.out)
        have n1_ := Aside0.mk (blk_drew BK638.out)
        have n2_ := Aside0.mk (below_drew1 HB.out)
        clear BK637
        clear BK638
        clear HB
        have BK637 := n0_
        have BK638 := n1_
        have HB := n2_
        clear n0_ n1_ n2_
        have p646 : 0 ≤ ((ji20) : Int) := of_decide_eq_true (by first | (with_reducible assumption) | assumption)
        have q646 : (ji20) < (l0_2.length : Int) := of_decide_eq_true (by first | (with_reducible assumption) | assumption)
        obtain ⟨ad646, e646, hx646_0, hx646_1, hx646_2, hx646_3⟩ := at_T25 HR0_2.out (ji20) p646 q646
        have hw646_3 := hx646_3
        have hw646_2 := hx646_2
        have hw646_1 := hx646_1
        have hw646_0 := hx646_0
        cases e646
        replace hx646_0 := (HB.out.cell (World.block_lt_of_cell? w _ hx646_0)).trans hx646_0
        replace hx646_1 := (HB.out.cell (World.block_lt_of_cell? w _ hx646_1)).trans hx646_1
        replace hx646_2 := (HB.out.cell (World.block_lt_of_cell? w _ hx646_2)).trans hx646_2
        replace hx646_3 := (HB.out.cell (World.block_lt_of_cell? w _ hx646_3)).trans hx646_3
        replace p646 := eq_true p646
        replace q646 := eq_true q646
        have q28 : ((ji20) : Int) ≤ ((l0_2.length : Int) : Int) := of_decide_eq_true (by first | (with_reducible assumption) | assumption)
        obtain ⟨i028, hi028, _, hsz28, _⟩ := info_parts info25
        have hroom28 : l0_2.length ≤ c0_2 := HC0_2.out
        have hC28 : Kd.C k25 _ (some ad646) l0_2.length l0_2 := HR0_2.out
        have hcut28 := cut_to (P := Try.prog) 33 25 .i64 Try.underlying33 hi028 (some ad646) l0_2.length c0_2 (ji20) (of_decide_eq_true (by first | (with_reducible assumption) | assumption)) q28 hroom28
        have hr28 := Kd.C_take (m := ((ji20) : Int).toNat) hC28 (by omega)
        have hy28 : y653.length = ((ji20) : Int).toNat := (by rw [Ny653.out, List.length_take]; omega)
        rw [← Ny653.out] at hr28
        rw [← hy28] at hcut28
        have HR656 := Aside0.mk hr28
        have HC656 := Aside0.mk (show y653.length ≤ c0_2 from by omega)
        clear hr28 hC28 hroom28 hi028 hsz28
        have KY28 := Aside0.mk hy28
        clear hy28
        replace q28 := eq_true q28
        refine start_ (n := 21) (S := fun w' => w'.cell? ⟨gb637, 0, none⟩ = some (.slice A0_0 l0_0.length c0_0) ∧ w'.cell? ⟨gb637, 1, none⟩ = some (.slice A0_1 l0_1.length c0_1) ∧ w'.cell? ⟨gb637, 2, none⟩ = some (.slice (some ad646) l0_2.length c0_2) ∧ w'.cell? (ad646.add (((ji20)).toNat * 4)) = some (.int .i64 ((rd_T25 l0_2 (ji20)).f0)) ∧ w'.cell? ⟨(ad646.add (((ji20)).toNat * 4)).block, (ad646.add (((ji20)).toNat * 4)).off + 1, none⟩ = some (.int .i64 ((rd_T25 l0_2 (ji20)).f1)) ∧ w'.cell? ⟨(ad646.add (((ji20)).toNat * 4)).block, (ad646.add (((ji20)).toNat * 4)).off + 2, none⟩ = some (.string ((rd_T25 l0_2 (ji20)).f2)) ∧ w'.cell? ⟨(ad646.add (((ji20)).toNat * 4)).block, (ad646.add (((ji20)).toNat * 4)).off + 3, none⟩ = some (.string ((rd_T25 l0_2 (ji20)).f3))) (ds := []) #[false, false, false, false, false, false, false, false, false, false, false, false, false, false, false, false, false, false, false, false, false] (by kernel_rfl) rfl rfl ⟨(blk_cell BK637.out 0).trans rfl, (blk_cell BK637.out 1).trans rfl, (blk_cell BK637.out 2).trans rfl, ((HB.out.cell (World.block_lt_of_cell? w _ hw646_0)).trans hw646_0), ((HB.out.cell (World.block_lt_of_cell? w _ hw646_1)).trans hw646_1), ((HB.out.cell (World.block_lt_of_cell? w _ hw646_2)).trans hw646_2), ((HB.out.cell (World.block_lt_of_cell? w _ hw646_3)).trans hw646_3)⟩ (fun hHeld => ?_); refine with_tabW impl_RedoEdit.tab4 impl_RedoEdit.bits4 (fun HT_ HW_ => ?_)
        generalize wc.drew = w27 at BK637 BK638 HB HR656 hx646_0 hx646_1 hx646_2 hx646_3 hHeld ⊢
        refine pure_ (i := 0) (N := some 17) (v := ?_) (a' := ?_) #[true, false, false, false, false, false, false, false, false, false, false, false, false, false, false, false, false, false, false, false, false] rfl rfl (any_of HT_.out (by kernel_rfl)) (fun _ _ _ h => h) (Or.inl ⟨by rfl, ?_⟩) ?_ ?_
        rotate_left
        ·intro w'
         go_simp
         with_reducible rfl
        rotate_left
        ·simp only [Act.put, List.setIfInBounds_toArray, List.set_cons_zero, List.set_cons_succ, i64_w, i32_w]
         rfl
        refine pure_ (i := 3) (N := some 20) (v := ?_) (a' := ?_) #[true, false, false, true, false, false, false, false, false, false, false, false, false, false, false, false, false, false, false, false, false] rfl rfl (any_of HT_.out (by kernel_rfl)) (fun _ _ _ h => h) (Or.inl ⟨by rfl, ?_⟩) ?_ ?_
        rotate_left
        ·intro w'
         go_simp
         with_reducible rfl
        rotate_left
        ·simp only [Act.put, List.setIfInBounds_toArray, List.set_cons_zero, List.set_cons_succ, i64_w, i32_w]
         rfl
        refine pure_ (i := 6) (N := some 23) (v := ?_) (a' := ?_) #[true, false, false, true, false, false, true, false, false, false, false, false, false, false, false, false, false, false, false, false, false] rfl rfl (any_of HT_.out (by kernel_rfl)) (fun _ _ _ h => h) (Or.inl ⟨by rfl, ?_⟩) ?_ ?_
        rotate_left
        ·intro w'
         go_simp
         with_reducible rfl
        rotate_left
        ·simp only [Act.put, List.setIfInBounds_toArray, List.set_cons_zero, List.set_cons_succ, i64_w, i32_w]
         rfl
        refine pure_ (i := 8) (N := some 25) (v := ?_) (a' := ?_) #[true, false, false, true, false, false, true, false, true, false, false, false, false, false, false, false, false, false, false, false, false] rfl rfl (any_of HT_.out (by kernel_rfl)) (fun _ _ _ h => h) (Or.inl ⟨by rfl, ?_⟩) ?_ ?_
        rotate_left
        ·intro w'
         go_simp
         with_reducible rfl
        rotate_left
        ·simp only [Act.put, List.setIfInBounds_toArray, List.set_cons_zero, List.set_cons_succ, i64_w, i32_w]
         rfl
        refine pure_ (i := 13) (N := some 30) (v := ?_) (a' := ?_) #[true, false, false, true, false, false, true, false, true, false, false, false, false, true, false, false, false, false, false, false, false] rfl rfl (any_of HT_.out (by kernel_rfl)) (fun _ _ _ h => h) (Or.inl ⟨by rfl, ?_⟩) ?_ ?_
        rotate_left
        ·intro w'
         go_simp
         with_reducible rfl
        rotate_left
        ·simp only [Act.put, List.setIfInBounds_toArray, List.set_cons_zero, List.set_cons_succ, i64_w, i32_w]
         rfl
        refine pure_ (i := 15) (N := some 32) (v := ?_) (a' := ?_) #[true, false, false, true, false, false, true, false, true, false, false, false, false, true, false, true, false, false, false, false, false] rfl rfl (any_of HT_.out (by kernel_rfl)) (fun _ _ _ h => h) (Or.inl ⟨by rfl, ?_⟩) ?_ ?_
        rotate_left
        ·intro w'
         go_simp
         with_reducible rfl
        rotate_left
        ·simp only [Act.put, List.setIfInBounds_toArray, List.set_cons_zero, List.set_cons_succ, i64_w, i32_w]
         rfl
        refine take_ (i := 1) (N := some 18) (v := ?_) (a' := ?_) #[true, true, false, true, false, false, true, false, true, false, false, false, false, true, false, true, false, false, false, false, false] rfl rfl (take_ofW HT_.out HW_.out (by kernel_rfl)) (fun _ _ _ h => h) (Or.inl ⟨by rfl, ?_⟩) hHeld ?_ ?_
        rotate_left
        ·rintro w' ⟨s0, s1, s2, s3, s4, s5, s6⟩
         go_simp
         with_reducible rfl
        rotate_left
        ·simp only [Act.put, List.setIfInBounds_toArray, List.set_cons_zero, List.set_cons_succ, i64_w, i32_w]
         rfl
        refine take_ (i := 4) (N := some 21) (v := ?_) (a' := ?_) #[true, true, false, true, true, false, true, false, true, false, false, false, false, true, false, true, false, false, false, false, false] rfl rfl (take_ofW HT_.out HW_.out (by kernel_rfl)) (fun _ _ _ h => h) (Or.inl ⟨by rfl, ?_⟩) hHeld ?_ ?_
        rotate_left
        ·rintro w' ⟨s0, s1, s2, s3, s4, s5, s6⟩
         go_simp
         with_reducible rfl
        rotate_left
        ·simp only [Act.put, List.setIfInBounds_toArray, List.set_cons_zero, List.set_cons_succ, i64_w, i32_w]
         rfl
        refine take_ (i := 7) (N := some 24) (v := ?_) (a' := ?_) #[true, true, false, true, true, false, true, true, true, false, false, false, false, true, false, true, false, false, false, false, false] rfl rfl (take_ofW HT_.out HW_.out (by kernel_rfl)) (fun _ _ _ h => h) (Or.inl ⟨by rfl, ?_⟩) hHeld ?_ ?_
        rotate_left
        ·rintro w' ⟨s0, s1, s2, s3, s4, s5, s6⟩
         go_simp
         with_reducible rfl
        rotate_left
        ·simp only [Act.put, List.setIfInBounds_toArray, List.set_cons_zero, List.set_cons_succ, i64_w, i32_w]
         rfl
        refine pure_ (i := 9) (N := some 26) (v := ?_) (a' := ?_) #[true, true, false, true, true, false, true, true, true, true, false, false, false, true, false, true, false, false, false, false, false] rfl rfl (any_of HT_.out (by kernel_rfl)) (fun _ _ _ h => h) (Or.inl ⟨by rfl, ?_⟩) ?_ ?_
        rotate_left
        ·intro w'
         go_simp
         with_reducible rfl
        rotate_left
        ·simp only [Act.put, List.setIfInBounds_toArray, List.set_cons_zero, List.set_cons_succ, i64_w, i32_w]
         rfl
        refine take_ (i := 10) (N := some 27) (v := ?_) (a' := ?_) #[true, true, false, true, true, false, true, true, true, true, true, false, false, true, false, true, false, false, false, false, false] rfl rfl (take_ofW HT_.out HW_.out (by kernel_rfl)) (fun _ _ _ h => h) (Or.inl ⟨by rfl, ?_⟩) hHeld ?_ ?_
        rotate_left
        ·rintro w' ⟨s0, s1, s2, s3, s4, s5, s6⟩
         go_simp
         with_reducible rfl
        rotate_left
        ·simp only [Act.put, List.setIfInBounds_toArray, List.set_cons_zero, List.set_cons_succ, i64_w, i32_w]
         rfl
        refine take_ (i := 14) (N := some 31) (v := ?_) (a' := ?_) #[true, true, false, true, true, false, true, true, true, true, true, false, false, true, true, true, false, false, false, false, false] rfl rfl (take_ofW HT_.out HW_.out (by kernel_rfl)) (fun _ _ _ h => h) (Or.inl ⟨by rfl, ?_⟩) hHeld ?_ ?_
        rotate_left
        ·rintro w' ⟨s0, s1, s2, s3, s4, s5, s6⟩
         go_simp
         with_reducible rfl
        rotate_left
        ·simp only [Act.put, List.setIfInBounds_toArray, List.set_cons_zero, List.set_cons_succ, i64_w, i32_w]
         rfl
        refine pure_ (i := 16) (N := some 33) (v := ?_) (a' := ?_) #[true, true, false, true, true, false, true, true, true, true, true, false, false, true, true, true, true, false, false, false, false] rfl rfl (any_of HT_.out (by kernel_rfl)) (fun _ _ _ h => h) (Or.inl ⟨by rfl, ?_⟩) ?_ ?_
        rotate_left
        ·intro w'
         go_simp
         with_reducible rfl
        rotate_left
        ·simp only [Act.put, List.setIfInBounds_toArray, List.set_cons_zero, List.set_cons_succ, i64_w, i32_w]
         rfl
        refine join_ (σ := Value × Value × Value) 5 #[true, true, true, true, true, true, true, true, true, true, true, true, false, true, true, true, true, false, false, false, false] (fun s_ => [(19, s_.1), (22, s_.2.1), (28, s_.2.2)]) (fun s_ w' => (w'.cell? ⟨gb637, 0, none⟩ = some (.slice A0_0 l0_0.length c0_0) ∧ w'.cell? ⟨gb637, 1, none⟩ = some (.slice A0_1 l0_1.length c0_1) ∧ w'.cell? ⟨gb637, 2, none⟩ = some (.slice (some ad646) l0_2.length c0_2) ∧ w'.cell? (ad646.add (((ji20)).toNat * 4)) = some (.int .i64 ((rd_T25 l0_2 (ji20)).f0)) ∧ w'.cell? ⟨(ad646.add (((ji20)).toNat * 4)).block, (ad646.add (((ji20)).toNat * 4)).off + 1, none⟩ = some (.int .i64 ((rd_T25 l0_2 (ji20)).f1)) ∧ w'.cell? ⟨(ad646.add (((ji20)).toNat * 4)).block, (ad646.add (((ji20)).toNat * 4)).off + 2, none⟩ = some (.string ((rd_T25 l0_2 (ji20)).f2)) ∧ w'.cell? ⟨(ad646.add (((ji20)).toNat * 4)).block, (ad646.add (((ji20)).toNat * 4)).off + 3, none⟩ = some (.string ((rd_T25 l0_2 (ji20)).f3))) ∧ (Kd.R Kd.string 9 w' w.heap.size (fun _ => True) s_.1 t640) ∧ (Kd.R k25 25 w' w.heap.size (fun k_ => some k_ ≠ (s_.2.2 : Value).ownBlock) s_.2.1 t643) ∧ (Kd.R k25 25 w' w.heap.size (fun k_ => some k_ ≠ (s_.2.1 : Value).ownBlock) s_.2.2 y647) ∧ (w'.heap[gb637]? = some (.cells #[.slice A0_0 l0_0.length c0_0, .slice A0_1 l0_1.length c0_1, .slice (some ad646) l0_2.length c0_2] 35 (0, 0))) ∧ (w'.heap[gb638]? = some (.cells #[.slice none 0 0, .slice none 0 0, .slice none 0 0] 35 (0, 0))) ∧ (Below w.heap.size w w')) ?_ ?_
        rotate_left
        ·intro hCont
         refine two_ (i := 2) (j := 11) (Ni := some 19) (Nj := some 28) #[true, true, true, true, true, false, true, true, true, true, true, false, false, true, true, true, true, false, false, false, false] #[true, true, false, true, true, false, true, true, true, true, true, true, false, true, true, true, true, false, false, false, false] rfl rfl rfl rfl (two_of HT_.out (by kernel_rfl)) (by decide) (by decide) (fun K hK => ?_) (fun K hK => ?_)
         ·skip
          refine goes_ Try.func53 (by kernel_rfl) rfl #[.slice A0_0 l0_0.length c0_0] (by rfl) rfl rfl args_ ?_
          with_reducible refine (slices_Clone_string_string.calls _ _ l0_0 t640 _ ?side1 ?side2 A18.out).mono ?_
          (case side1 => repeat (first | exact (Kd.C_below HR0_0.out HB.out) | (with_reducible first | apply cA_ | apply cN_ | apply cD_)))
          (case side2 => exact HC0_0.out)
          rintro e w29 ⟨v641, rfl, ho0, hb⟩
          refine ⟨_, rfl, ?_⟩
          have n0_ := Aside0.mk (Kd.R_lower ho0 (below_size (bb2_ HB GE637 GE638)))
          have n1_ := Aside0.mk (lb_ BK637 hb)
          have n2_ := Aside0.mk (lb_ BK638 hb)
          have n3_ := Aside0.mk (below_step (bb2_ HB GE637 GE638) hb)
          clear BK637
          clear BK638
          clear HB
          have HO642 := n0_
          have BK637 := n1_
          have BK638 := n2_
          have HB := n3_
          clear n0_ n1_ n2_ n3_
          (try clear hb)
          (try clear hb2)
          (try clear hk)
          (try clear hi)
          (try clear ho0)
          refine hK.out _ _ ⟨(blk_cell BK637.out 0).trans rfl, (blk_cell BK637.out 1).trans rfl, (blk_cell BK637.out 2).trans rfl, ((HB.out.cell (World.block_lt_of_cell? w _ hw646_0)).trans hw646_0), ((HB.out.cell (World.block_lt_of_cell? w _ hw646_1)).trans hw646_1), ((HB.out.cell (World.block_lt_of_cell? w _ hw646_2)).trans hw646_2), ((HB.out.cell (World.block_lt_of_cell? w _ hw646_3)).trans hw646_3)⟩ (fun hHeld => ?_)
          clear hK K
          refine norm_ (a' := ?_) ?_ ?_
          rotate_left
          ·show Act.put _ (some 19) _ = _
           simp only [Act.put, List.setIfInBounds_toArray, List.set_cons_zero, List.set_cons_succ, i64_w, i32_w]
           rfl
          refine two_ (i := 5) (j := 11) (Ni := some 22) (Nj := some 28) #[true, true, true, true, true, true, true, true, true, true, true, false, false, true, true, true, true, false, false, false, false] #[true, true, true, true, true, false, true, true, true, true, true, true, false, true, true, true, true, false, false, false, false] rfl rfl rfl rfl (two_of HT_.out (by kernel_rfl)) (by decide) (by decide) (fun K hK => ?_) (fun K hK => ?_)
          ·skip
           refine goes_ Try.func69 (by kernel_rfl) rfl #[.slice A0_1 l0_1.length c0_1] (by rfl) rfl rfl args_ ?_
           with_reducible refine (impl_DeskEdit_69.calls _ _ l0_1 t643 _ ?side1 ?side2 A19.out).mono ?_
           (case side1 => repeat (first | exact (Kd.C_below HR0_1.out HB.out) | (with_reducible first | apply cA_ | apply cN_ | apply cD_)))
           (case side2 => exact HC0_1.out)
           rintro e w30 ⟨v644, rfl, ho0, hb⟩
           refine ⟨_, rfl, ?_⟩
           have n0_ := Aside0.mk (Kd.R_below (ra_ HO642) hb)
           have n1_ := Aside0.mk (Kd.R_lower ho0 (below_size (bb2_ HB GE637 GE638)))
           have n2_ := Aside0.mk (lb_ BK637 hb)
           have n3_ := Aside0.mk (lb_ BK638 hb)
           have n4_ := Aside0.mk (below_step (bb2_ HB GE637 GE638) hb)
           clear HO642
           clear BK637
           clear BK638
           clear HB
           have HO642 := n0_
           have HO645 := n1_
           have BK637 := n2_
           have BK638 := n3_
           have HB := n4_
           clear n0_ n1_ n2_ n3_ n4_
           (try clear hb)
           (try clear hb2)
           (try clear hk)
           (try clear hi)
           (try clear ho0)
           refine hK.out _ _ ⟨(blk_cell BK637.out 0).trans rfl, (blk_cell BK637.out 1).trans rfl, (blk_cell BK637.out 2).trans rfl, ((HB.out.cell (World.block_lt_of_cell? w _ hw646_0)).trans hw646_0), ((HB.out.cell (World.block_lt_of_cell? w _ hw646_1)).trans hw646_1), ((HB.out.cell (World.block_lt_of_cell? w _ hw646_2)).trans hw646_2), ((HB.out.cell (World.block_lt_of_cell? w _ hw646_3)).trans hw646_3)⟩ (fun hHeld => ?_)
           clear hK K
           refine norm_ (a' := ?_) ?_ ?_
           rotate_left
           ·show Act.put _ (some 22) _ = _
            simp only [Act.put, List.setIfInBounds_toArray, List.set_cons_zero, List.set_cons_succ, i64_w, i32_w]
            rfl
           refine one_ (i := 11) (N := some 28) #[true, true, true, true, true, true, true, true, true, true, true, true, false, true, true, true, true, false, false, false, false] rfl rfl (one_of HT_.out (by kernel_rfl)) (by decide) (fun K hK => ?_)
           refine Kd.R_lit_step k25 _ 25 ?hg (N := 28) ?hd (xs := ([(⟨(rd_T25 l0_2 (ji20)).f0, (rd_T25 l0_2 (ji20)).f1, (rd_T25 l0_2 (ji20)).f2, (rd_T25 l0_2 (ji20)).f3⟩ : S25)] : List (S25))) (inner := [.int .i64 ((rd_T25 l0_2 (ji20)).f0), .int .i64 ((rd_T25 l0_2 (ji20)).f1), .string ((rd_T25 l0_2 (ji20)).f2), .string ((rd_T25 l0_2 (ji20)).f3)]) (ok := fun _ => True) (okp := fun _ => True) ?hr ?hp (fun _ hk => hk) trivial (Below.refl _ _) (Nat.le_refl _) (by simp) ?_; (case hd => rfl); (case hg => rfl); (case hr => first | (go_simp; done) | (go_simp; rfl)); (case hp => exact (Reps.c4 (show Kd.M k25 _ _ _ (⟨(rd_T25 l0_2 (ji20)).f0, (rd_T25 l0_2 (ji20)).f1, (rd_T25 l0_2 (ji20)).f2, (rd_T25 l0_2 (ji20)).f3⟩ : S25) [.int .i64 ((rd_T25 l0_2 (ji20)).f0), .int .i64 ((rd_T25 l0_2 (ji20)).f1), .string ((rd_T25 l0_2 (ji20)).f2), .string ((rd_T25 l0_2 (ji20)).f3)] from (k25_mkM _ _ _ (⟨(rd_T25 l0_2 (ji20)).f0, (rd_T25 l0_2 (ji20)).f1, (rd_T25 l0_2 (ji20)).f2, (rd_T25 l0_2 (ji20)).f3⟩ : S25) )) (Reps.none _ _)))
           intro v648 w31 ho32 hb hg_ hnew_
           clear hg_ hnew_
           (first | rw [← Ny647.out] at ho32 | (simp only [Int.reduceToNat] at ho32; rw [← Ny647.out] at ho32))
           have n0_ := Aside0.mk (Kd.R_below (ra_ HO642) hb)
           have n1_ := Aside0.mk (Kd.R_elder' (ra_ HO645) (Kd.R_base ho32) hb)
           have n2_ := Aside0.mk (Kd.R_lower (Kd.R_new' ho32 (Kd.R_lt (ra_ HO645))) (below_size (bb2_ HB GE637 GE638)))
           have n3_ := Aside0.mk (lb_ BK637 hb)
           have n4_ := Aside0.mk (lb_ BK638 hb)
           have n5_ := Aside0.mk (below_step (bb2_ HB GE637 GE638) hb)
           clear HO642
           clear HO645
           clear BK637
           clear BK638
           clear HB
           have HO642 := n0_
           have HO645 := n1_
           have HO649 := n2_
           have BK637 := n3_
           have BK638 := n4_
           have HB := n5_
           clear n0_ n1_ n2_ n3_ n4_ n5_
           clear hb ho32
           refine hK.out _ _ ⟨(blk_cell BK637.out 0).trans rfl, (blk_cell BK637.out 1).trans rfl, (blk_cell BK637.out 2).trans rfl, ((HB.out.cell (World.block_lt_of_cell? w _ hw646_0)).trans hw646_0), ((HB.out.cell (World.block_lt_of_cell? w _ hw646_1)).trans hw646_1), ((HB.out.cell (World.block_lt_of_cell? w _ hw646_2)).trans hw646_2), ((HB.out.cell (World.block_lt_of_cell? w _ hw646_3)).trans hw646_3)⟩ (fun hHeld => ?_)
           clear hK K
           refine norm_ (a' := ?_) ?_ ?_
           rotate_left
           ·show Act.put _ (some 28) _ = _
            simp only [Act.put, List.setIfInBounds_toArray, List.set_cons_zero, List.set_cons_succ, i64_w, i32_w]
            rfl
           exact norm_ (by simp only [putAll, Act.put, List.setIfInBounds_toArray, List.set_cons_zero, List.set_cons_succ]) (hCont (v641, v644, v648) _ ⟨hHeld, (ra_ HO642), (by (with_reducible repeat (first | apply rA_ | apply rN_ | apply rD_)); exact Kd.R_mono HO645.out (fun _ hk => hk.2)), (by (with_reducible repeat (first | apply rA_ | apply rN_ | apply rD_)); exact Kd.R_mono HO649.out (fun _ hk => hk.2)), (la_ BK637), (la_ BK638), (bb2_ HB GE637 GE638)⟩)
          ·skip
           refine Kd.R_lit_step k25 _ 25 ?hg (N := 28) ?hd (xs := ([(⟨(rd_T25 l0_2 (ji20)).f0, (rd_T25 l0_2 (ji20)).f1, (rd_T25 l0_2 (ji20)).f2, (rd_T25 l0_2 (ji20)).f3⟩ : S25)] : List (S25))) (inner := [.int .i64 ((rd_T25 l0_2 (ji20)).f0), .int .i64 ((rd_T25 l0_2 (ji20)).f1), .string ((rd_T25 l0_2 (ji20)).f2), .string ((rd_T25 l0_2 (ji20)).f3)]) (ok := fun _ => True) (okp := fun _ => True) ?hr ?hp (fun _ hk => hk) trivial (Below.refl _ _) (Nat.le_refl _) (by simp) ?_; (case hd => rfl); (case hg => rfl); (case hr => first | (go_simp; done) | (go_simp; rfl)); (case hp => exact (Reps.c4 (show Kd.M k25 _ _ _ (⟨(rd_T25 l0_2 (ji20)).f0, (rd_T25 l0_2 (ji20)).f1, (rd_T25 l0_2 (ji20)).f2, (rd_T25 l0_2 (ji20)).f3⟩ : S25) [.int .i64 ((rd_T25 l0_2 (ji20)).f0), .int .i64 ((rd_T25 l0_2 (ji20)).f1), .string ((rd_T25 l0_2 (ji20)).f2), .string ((rd_T25 l0_2 (ji20)).f3)] from (k25_mkM _ _ _ (⟨(rd_T25 l0_2 (ji20)).f0, (rd_T25 l0_2 (ji20)).f1, (rd_T25 l0_2 (ji20)).f2, (rd_T25 l0_2 (ji20)).f3⟩ : S25) )) (Reps.none _ _)))
           intro v648 w30 ho31 hb hg_ hnew_
           clear hg_ hnew_
           (first | rw [← Ny647.out] at ho31 | (simp only [Int.reduceToNat] at ho31; rw [← Ny647.out] at ho31))
           have n0_ := Aside0.mk (Kd.R_below (ra_ HO642) hb)
           have n1_ := Aside0.mk (Kd.R_lower ho31 (below_size (bb2_ HB GE637 GE638)))
           have n2_ := Aside0.mk (lb_ BK637 hb)
           have n3_ := Aside0.mk (lb_ BK638 hb)
           have n4_ := Aside0.mk (below_step (bb2_ HB GE637 GE638) hb)
           clear HO642
           clear BK637
           clear BK638
           clear HB
           have HO642 := n0_
           have HO649 := n1_
           have BK637 := n2_
           have BK638 := n3_
           have HB := n4_
           clear n0_ n1_ n2_ n3_ n4_
           clear hb ho31
           refine hK.out _ _ ⟨(blk_cell BK637.out 0).trans rfl, (blk_cell BK637.out 1).trans rfl, (blk_cell BK637.out 2).trans rfl, ((HB.out.cell (World.block_lt_of_cell? w _ hw646_0)).trans hw646_0), ((HB.out.cell (World.block_lt_of_cell? w _ hw646_1)).trans hw646_1), ((HB.out.cell (World.block_lt_of_cell? w _ hw646_2)).trans hw646_2), ((HB.out.cell (World.block_lt_of_cell? w _ hw646_3)).trans hw646_3)⟩ (fun hHeld => ?_)
           clear hK K
           refine norm_ (a' := ?_) ?_ ?_
           rotate_left
           ·show Act.put _ (some 28) _ = _
            simp only [Act.put, List.setIfInBounds_toArray, List.set_cons_zero, List.set_cons_succ, i64_w, i32_w]
            rfl
           refine one_ (i := 5) (N := some 22) #[true, true, true, true, true, true, true, true, true, true, true, true, false, true, true, true, true, false, false, false, false] rfl rfl (one_of HT_.out (by kernel_rfl)) (by decide) (fun K hK => ?_)
           refine goes_ Try.func69 (by kernel_rfl) rfl #[.slice A0_1 l0_1.length c0_1] (by rfl) rfl rfl args_ ?_
           with_reducible refine (impl_DeskEdit_69.calls _ _ l0_1 t643 _ ?side1 ?side2 A19.out).mono ?_
           (case side1 => repeat (first | exact (Kd.C_below HR0_1.out HB.out) | (with_reducible first | apply cA_ | apply cN_ | apply cD_)))
           (case side2 => exact HC0_1.out)
           rintro e w32 ⟨v644, rfl, ho0, hb⟩
           refine ⟨_, rfl, ?_⟩
           have n0_ := Aside0.mk (Kd.R_below (ra_ HO642) hb)
           have n1_ := Aside0.mk (Kd.R_elder' (ra_ HO649) (Kd.R_base ho0) hb)
           have n2_ := Aside0.mk (Kd.R_lower (Kd.R_new' ho0 (Kd.R_lt (ra_ HO649))) (below_size (bb2_ HB GE637 GE638)))
           have n3_ := Aside0.mk (lb_ BK637 hb)
           have n4_ := Aside0.mk (lb_ BK638 hb)
           have n5_ := Aside0.mk (below_step (bb2_ HB GE637 GE638) hb)
           clear HO642
           clear HO649
           clear BK637
           clear BK638
           clear HB
           have HO642 := n0_
           have HO649 := n1_
           have HO645 := n2_
           have BK637 := n3_
           have BK638 := n4_
           have HB := n5_
           clear n0_ n1_ n2_ n3_ n4_ n5_
           (try clear hb)
           (try clear hb2)
           (try clear hk)
           (try clear hi)
           (try clear ho0)
           refine hK.out _ _ ⟨(blk_cell BK637.out 0).trans rfl, (blk_cell BK637.out 1).trans rfl, (blk_cell BK637.out 2).trans rfl, ((HB.out.cell (World.block_lt_of_cell? w _ hw646_0)).trans hw646_0), ((HB.out.cell (World.block_lt_of_cell? w _ hw646_1)).trans hw646_1), ((HB.out.cell (World.block_lt_of_cell? w _ hw646_2)).trans hw646_2), ((HB.out.cell (World.block_lt_of_cell? w _ hw646_3)).trans hw646_3)⟩ (fun hHeld => ?_)
           clear hK K
           refine norm_ (a' := ?_) ?_ ?_
           rotate_left
           ·show Act.put _ (some 22) _ = _
            simp only [Act.put, List.setIfInBounds_toArray, List.set_cons_zero, List.set_cons_succ, i64_w, i32_w]
            rfl
           exact norm_ (by simp only [putAll, Act.put, List.setIfInBounds_toArray, List.set_cons_zero, List.set_cons_succ]) (hCont (v641, v644, v648) _ ⟨hHeld, (ra_ HO642), (by (with_reducible repeat (first | apply rA_ | apply rN_ | apply rD_)); exact Kd.R_mono HO645.out (fun _ hk => hk.2)), (by (with_reducible repeat (first | apply rA_ | apply rN_ | apply rD_)); exact Kd.R_mono HO649.out (fun _ hk => hk.2)), (la_ BK637), (la_ BK638), (bb2_ HB GE637 GE638)⟩)
         ·skip
          refine Kd.R_lit_step k25 _ 25 ?hg (N := 28) ?hd (xs := ([(⟨(rd_T25 l0_2 (ji20)).f0, (rd_T25 l0_2 (ji20)).f1, (rd_T25 l0_2 (ji20)).f2, (rd_T25 l0_2 (ji20)).f3⟩ : S25)] : List (S25))) (inner := [.int .i64 ((rd_T25 l0_2 (ji20)).f0), .int .i64 ((rd_T25 l0_2 (ji20)).f1), .string ((rd_T25 l0_2 (ji20)).f2), .string ((rd_T25 l0_2 (ji20)).f3)]) (ok := fun _ => True) (okp := fun _ => True) ?hr ?hp (fun _ hk => hk) trivial (Below.refl _ _) (Nat.le_refl _) (by simp) ?_; (case hd => rfl); (case hg => rfl); (case hr => first | (go_simp; done) | (go_simp; rfl)); (case hp => exact (Reps.c4 (show Kd.M k25 _ _ _ (⟨(rd_T25 l0_2 (ji20)).f0, (rd_T25 l0_2 (ji20)).f1, (rd_T25 l0_2 (ji20)).f2, (rd_T25 l0_2 (ji20)).f3⟩ : S25) [.int .i64 ((rd_T25 l0_2 (ji20)).f0), .int .i64 ((rd_T25 l0_2 (ji20)).f1), .string ((rd_T25 l0_2 (ji20)).f2), .string ((rd_T25 l0_2 (ji20)).f3)] from (k25_mkM _ _ _ (⟨(rd_T25 l0_2 (ji20)).f0, (rd_T25 l0_2 (ji20)).f1, (rd_T25 l0_2 (ji20)).f2, (rd_T25 l0_2 (ji20)).f3⟩ : S25) )) (Reps.none _ _)))
          intro v648 w29 ho30 hb hg_ hnew_
          clear hg_ hnew_
          (first | rw [← Ny647.out] at ho30 | (simp only [Int.reduceToNat] at ho30; rw [← Ny647.out] at ho30))
          have n0_ := Aside0.mk (Kd.R_lower ho30 (below_size (bb2_ HB GE637 GE638)))
          have n1_ := Aside0.mk (lb_ BK637 hb)
          have n2_ := Aside0.mk (lb_ BK638 hb)
          have n3_ := Aside0.mk (below_step (bb2_ HB GE637 GE638) hb)
          clear BK637
          clear BK638
          clear HB
          have HO649 := n0_
          have BK637 := n1_
          have BK638 := n2_
          have HB := n3_
          clear n0_ n1_ n2_ n3_
          clear hb ho30
          refine hK.out _ _ ⟨(blk_cell BK637.out 0).trans rfl, (blk_cell BK637.out 1).trans rfl, (blk_cell BK637.out 2).trans rfl, ((HB.out.cell (World.block_lt_of_cell? w _ hw646_0)).trans hw646_0), ((HB.out.cell (World.block_lt_of_cell? w _ hw646_1)).trans hw646_1), ((HB.out.cell (World.block_lt_of_cell? w _ hw646_2)).trans hw646_2), ((HB.out.cell (World.block_lt_of_cell? w _ hw646_3)).trans hw646_3)⟩ (fun hHeld => ?_)
          clear hK K
          refine norm_ (a' := ?_) ?_ ?_
          rotate_left
          ·show Act.put _ (some 28) _ = _
           simp only [Act.put, List.setIfInBounds_toArray, List.set_cons_zero, List.set_cons_succ, i64_w, i32_w]
           rfl
          refine one_ (i := 2) (N := some 19) #[true, true, true, true, true, false, true, true, true, true, true, true, false, true, true, true, true, false, false, false, false] rfl rfl (one_of HT_.out (by kernel_rfl)) (by decide) (fun K hK => ?_)
          refine goes_ Try.func53 (by kernel_rfl) rfl #[.slice A0_0 l0_0.length c0_0] (by rfl) rfl rfl args_ ?_
          with_reducible refine (slices_Clone_string_string.calls _ _ l0_0 t640 _ ?side1 ?side2 A18.out).mono ?_
          (case side1 => repeat (first | exact (Kd.C_below HR0_0.out HB.out) | (with_reducible first | apply cA_ | apply cN_ | apply cD_)))
          (case side2 => exact HC0_0.out)
          rintro e w31 ⟨v641, rfl, ho0, hb⟩
          refine ⟨_, rfl, ?_⟩
          have n0_ := Aside0.mk (Kd.R_below (ra_ HO649) hb)
          have n1_ := Aside0.mk (Kd.R_lower ho0 (below_size (bb2_ HB GE637 GE638)))
          have n2_ := Aside0.mk (lb_ BK637 hb)
          have n3_ := Aside0.mk (lb_ BK638 hb)
          have n4_ := Aside0.mk (below_step (bb2_ HB GE637 GE638) hb)
          clear HO649
          clear BK637
          clear BK638
          clear HB
          have HO649 := n0_
          have HO642 := n1_
          have BK637 := n2_
          have BK638 := n3_
          have HB := n4_
          clear n0_ n1_ n2_ n3_ n4_
          (try clear hb)
          (try clear hb2)
          (try clear hk)
          (try clear hi)
          (try clear ho0)
          refine hK.out _ _ ⟨(blk_cell BK637.out 0).trans rfl, (blk_cell BK637.out 1).trans rfl, (blk_cell BK637.out 2).trans rfl, ((HB.out.cell (World.block_lt_of_cell? w _ hw646_0)).trans hw646_0), ((HB.out.cell (World.block_lt_of_cell? w _ hw646_1)).trans hw646_1), ((HB.out.cell (World.block_lt_of_cell? w _ hw646_2)).trans hw646_2), ((HB.out.cell (World.block_lt_of_cell? w _ hw646_3)).trans hw646_3)⟩ (fun hHeld => ?_)
          clear hK K
          refine norm_ (a' := ?_) ?_ ?_
          rotate_left
          ·show Act.put _ (some 19) _ = _
           simp only [Act.put, List.setIfInBounds_toArray, List.set_cons_zero, List.set_cons_succ, i64_w, i32_w]
           rfl
          refine one_ (i := 5) (N := some 22) #[true, true, true, true, true, true, true, true, true, true, true, true, false, true, true, true, true, false, false, false, false] rfl rfl (one_of HT_.out (by kernel_rfl)) (by decide) (fun K hK => ?_)
          refine goes_ Try.func69 (by kernel_rfl) rfl #[.slice A0_1 l0_1.length c0_1] (by rfl) rfl rfl args_ ?_
          with_reducible refine (impl_DeskEdit_69.calls _ _ l0_1 t643 _ ?side1 ?side2 A19.out).mono ?_
          (case side1 => repeat (first | exact (Kd.C_below HR0_1.out HB.out) | (with_reducible first | apply cA_ | apply cN_ | apply cD_)))
          (case side2 => exact HC0_1.out)
          rintro e w32 ⟨v644, rfl, ho0, hb⟩
          refine ⟨_, rfl, ?_⟩
          have n0_ := Aside0.mk (Kd.R_elder' (ra_ HO649) (Kd.R_base ho0) hb)
          have n1_ := Aside0.mk (Kd.R_below (ra_ HO642) hb)
          have n2_ := Aside0.mk (Kd.R_lower (Kd.R_new' ho0 (Kd.R_lt (ra_ HO649))) (below_size (bb2_ HB GE637 GE638)))
          have n3_ := Aside0.mk (lb_ BK637 hb)
          have n4_ := Aside0.mk (lb_ BK638 hb)
          have n5_ := Aside0.mk (below_step (bb2_ HB GE637 GE638) hb)
          clear HO649
          clear HO642
          clear BK637
          clear BK638
          clear HB
          have HO649 := n0_
          have HO642 := n1_
          have HO645 := n2_
          have BK637 := n3_
          have BK638 := n4_
          have HB := n5_
          clear n0_ n1_ n2_ n3_ n4_ n5_
          (try clear hb)
          (try clear hb2)
          (try clear hk)
          (try clear hi)
          (try clear ho0)
          refine hK.out _ _ ⟨(blk_cell BK637.out 0).trans rfl, (blk_cell BK637.out 1).trans rfl, (blk_cell BK637.out 2).trans rfl, ((HB.out.cell (World.block_lt_of_cell? w _ hw646_0)).trans hw646_0), ((HB.out.cell (World.block_lt_of_cell? w _ hw646_1)).trans hw646_1), ((HB.out.cell (World.block_lt_of_cell? w _ hw646_2)).trans hw646_2), ((HB.out.cell (World.block_lt_of_cell? w _ hw646_3)).trans hw646_3)⟩ (fun hHeld => ?_)
          clear hK K
          refine norm_ (a' := ?_) ?_ ?_
          rotate_left
          ·show Act.put _ (some 22) _ = _
           simp only [Act.put, List.setIfInBounds_toArray, List.set_cons_zero, List.set_cons_succ, i64_w, i32_w]
           rfl
          exact norm_ (by simp only [putAll, Act.put, List.setIfInBounds_toArray, List.set_cons_zero, List.set_cons_succ]) (hCont (v641, v644, v648) _ ⟨hHeld, (ra_ HO642), (by (with_reducible repeat (first | apply rA_ | apply rN_ | apply rD_)); exact Kd.R_mono HO645.out (fun _ hk => hk.2)), (by (with_reducible repeat (first | apply rA_ | apply rN_ | apply rD_)); exact Kd.R_mono HO649.out (fun _ hk => hk.2)), (la_ BK637), (la_ BK638), (bb2_ HB GE637 GE638)⟩)
        rintro ⟨v641, v644, v648⟩ w33 ⟨hS_, h0_, h1_, h2_, h3_, h4_, h5_⟩
        have n0_ : Aside0 (Kd.R Kd.string 9 w33 w.heap.size (fun _ => True) v641 t640) := ⟨h0_⟩
        have n1_ : Aside0 (Kd.R k25 25 w33 w.heap.size (fun k_ => some k_ ≠ (v648 : Value).ownBlock) v644 t643) := ⟨h1_⟩
        have n2_ : Aside0 (Kd.R k25 25 w33 w.heap.size (fun k_ => some k_ ≠ (v644 : Value).ownBlock) v648 y647) := ⟨h2_⟩
        have n3_ : Aside0 (w33.heap[gb637]? = some (.cells #[.slice A0_0 l0_0.length c0_0, .slice A0_1 l0_1.length c0_1, .slice (some ad646) l0_2.length c0_2] 35 (0, 0))) := ⟨h3_⟩
        have n4_ : Aside0 (w33.heap[gb638]? = some (.cells #[.slice none 0 0, .slice none 0 0, .slice none 0 0] 35 (0, 0))) := ⟨h4_⟩
        have n5_ : Aside0 (Below w.heap.size w w33) := ⟨h5_⟩
        clear BK637
        clear BK638
        clear HB
        clear h0_ h1_ h2_ h3_ h4_ h5_
        have HO642 := n0_
        have HO645 := n1_
        have HO649 := n2_
        have BK637 := n3_
        have BK638 := n4_
        have HB := n5_
        clear n0_ n1_ n2_ n3_ n4_ n5_
        have hHeld : w33.cell? ⟨gb637, 0, none⟩ = some (.slice A0_0 l0_0.length c0_0) ∧ w33.cell? ⟨gb637, 1, none⟩ = some (.slice A0_1 l0_1.length c0_1) ∧ w33.cell? ⟨gb637, 2, none⟩ = some (.slice (some ad646) l0_2.length c0_2) ∧ w33.cell? (ad646.add (((ji20)).toNat * 4)) = some (.int .i64 ((rd_T25 l0_2 (ji20)).f0)) ∧ w33.cell? ⟨(ad646.add (((ji20)).toNat * 4)).block, (ad646.add (((ji20)).toNat * 4)).off + 1, none⟩ = some (.int .i64 ((rd_T25 l0_2 (ji20)).f1)) ∧ w33.cell? ⟨(ad646.add (((ji20)).toNat * 4)).block, (ad646.add (((ji20)).toNat * 4)).off + 2, none⟩ = some (.string ((rd_T25 l0_2 (ji20)).f2)) ∧ w33.cell? ⟨(ad646.add (((ji20)).toNat * 4)).block, (ad646.add (((ji20)).toNat * 4)).off + 3, none⟩ = some (.string ((rd_T25 l0_2 (ji20)).f3)) := hS_
        obtain ⟨Ao35, co35, eo35⟩ := Kd.R_slice HO649.out
        (first | subst eo35 | (injection eo35 with f1_ f2_ f3_; have f4_ := f1_.symm; have f5_ := f3_.symm; clear f1_ f2_ f3_; subst f4_; subst f5_))
        refine norm_ (a' := ?_) ?_ ?_
        rotate_left
        ·simp only [putAll, Act.put, List.setIfInBounds_toArray, List.set_cons_zero, List.set_cons_succ]
         rfl
        refine one_ (i := 12) (N := some 29) #[true, true, true, true, true, true, true, true, true, true, true, true, true, true, true, true, true, false, false, false, false] rfl rfl (one_of HT_.out (by kernel_rfl)) (by decide) (fun K hK => ?_)
        refine Kd.R_append_rows_step k25 (w0 := w) w.heap.size (by rfl) (.tmp 22) (.tmp 28) 33 25 (.agg #[(.int .i64 0), (.int .i64 0), (.string ⟨#[]⟩), (.string ⟨#[]⟩)]) 48 rfl Try.underlying33 info25 rfl (by decide) (by omega) v644 t643 y647 _ _ _ (fun k_ => some k_ ≠ (.slice Ao35 y647.length co35 : Value).ownBlock) (fun _ => False) rfl rfl ?aO ?aR (fun _ _ h => h) (fun _ h => h.elim) ?aF ?aB ?aS ?aL ?_
        (case aR => repeat (first | exact (Kd.R_reads' HO649.out).2.2 | (with_reducible first | apply cA_ | apply cN_ | apply cD_)))
        (case aB => exact (bb2_ HB GE637 GE638))
        (case aF => exact (fun k_ hk => Kd.fresh' (Kd.R_lt (ra_ HO649)) k_ hk))
        (case aO => exact (ra_ HO645))
        (case aS => exact (below_size (bb2_ HB GE637 GE638)))
        (case aL => have := LMc23.out; omega)
        intro v651 w34 ho hb hg hat
        rw [← Ny650.out] at ho
        have n0_ := Aside0.mk (blk_grown (g := gb637) (o := .cells #[.slice A0_0 l0_0.length c0_0, .slice A0_1 l0_1.length c0_1, .slice (some ad646) l0_2.length c0_2] 35 (0, 0)) (la_ BK637) hg (Kd.R_ne HO645.out BK637.out (by decide)))
        have n1_ := Aside0.mk (blk_grown (g := gb638) (o := .cells #[.slice none 0 0, .slice none 0 0, .slice none 0 0] 35 (0, 0)) (la_ BK638) hg (Kd.R_ne HO645.out BK638.out (by decide)))
        have n2_ := Aside0.mk (Kd.R_over' (ra_ HO642) (Kd.R_typed (ra_ HO645)) (by decide) hg)
        have n3_ := Aside0.mk (Kd.R_after (ok := (fun _ => True)) (by (with_reducible repeat (first | apply rA_ | apply rN_ | apply rD_)); exact Kd.R_mono HO649.out (fun _ hk => ⟨trivial, hk⟩)) hg hat)
        have n4_ := Aside0.mk (hb)
        have n5_ := Aside0.mk (ho)
        clear BK637
        clear BK638
        clear HO642
        clear HO649
        clear HB
        clear HO645
        have BK637 := n0_
        have BK638 := n1_
        have HO642 := n2_
        have HO649 := n3_
        have HB := n4_
        have HO652 := n5_
        clear n0_ n1_ n2_ n3_ n4_ n5_
        clear ho hb hg hat
        refine hK.out _ _ ⟨(blk_cell BK637.out 0).trans rfl, (blk_cell BK637.out 1).trans rfl, (blk_cell BK637.out 2).trans rfl, ((HB.out.cell (World.block_lt_of_cell? w _ hw646_0)).trans hw646_0), ((HB.out.cell (World.block_lt_of_cell? w _ hw646_1)).trans hw646_1), ((HB.out.cell (World.block_lt_of_cell? w _ hw646_2)).trans hw646_2), ((HB.out.cell (World.block_lt_of_cell? w _ hw646_3)).trans hw646_3)⟩ (fun hHeld => ?_)
        clear hK K
        refine norm_ (a' := ?_) ?_ ?_
        rotate_left
        ·show Act.put _ (some 29) _ = _
         simp only [Act.put, List.setIfInBounds_toArray, List.set_cons_zero, List.set_cons_succ, i64_w, i32_w]
         rfl
        refine one_ (i := 17) (N := some 34) #[true, true, true, true, true, true, true, true, true, true, true, true, true, true, true, true, true, true, false, false, false] rfl rfl (one_of HT_.out (by kernel_rfl)) (by decide) (fun K hK => ?_)
        refine goes_ Try.func69 (by kernel_rfl) rfl #[.slice (some ad646) y653.length c0_2] (by rfl) rfl rfl args_ ?_
        with_reducible refine (impl_DeskEdit_69.calls _ _ y653 t657 _ ?side1 ?side2 A26.out).mono ?_
        (case side1 => repeat (first | exact (Kd.C_below HR656.out HB.out) | (with_reducible first | apply cA_ | apply cN_ | apply cD_)))
        (case side2 => exact HC656.out)
        rintro e w36 ⟨v658, rfl, ho0, hb⟩
        refine ⟨_, rfl, ?_⟩
        have n0_ := Aside0.mk (Kd.R_below (ra_ HO642) hb)
        have n1_ := Aside0.mk (Kd.R_elder' (ra_ HO649) (Kd.R_base ho0) hb)
        have n2_ := Aside0.mk (Kd.R_elder' (ra_ HO652) (Kd.R_base ho0) hb)
        have n3_ := Aside0.mk (Kd.R_lower (Kd.R_new' (Kd.R_new' ho0 (Kd.R_lt (ra_ HO649))) (Kd.R_lt (ra_ HO652))) (below_size (bb2_ HB GE637 GE638)))
        have n4_ := Aside0.mk (lb_ BK637 hb)
        have n5_ := Aside0.mk (lb_ BK638 hb)
        have n6_ := Aside0.mk (below_step (bb2_ HB GE637 GE638) hb)
        clear HO642
        clear HO649
        clear HO652
        clear BK637
        clear BK638
        clear HB
        have HO642 := n0_
        have HO649 := n1_
        have HO652 := n2_
        have HO659 := n3_
        have BK637 := n4_
        have BK638 := n5_
        have HB := n6_
        clear n0_ n1_ n2_ n3_ n4_ n5_ n6_
        (try clear hb)
        (try clear hb2)
        (try clear hk)
        (try clear hi)
        (try clear ho0)
        obtain ⟨Ao37, co37, eo37⟩ := Kd.R_slice HO659.out
        (first | subst eo37 | (injection eo37 with f1_ f2_ f3_; have f4_ := f1_.symm; have f5_ := f3_.symm; clear f1_ f2_ f3_; subst f4_; subst f5_))
        obtain ⟨Ao38, co38, eo38⟩ := Kd.R_slice HO652.out
        (first | subst eo38 | (injection eo38 with f1_ f2_ f3_; have f4_ := f1_.symm; have f5_ := f3_.symm; clear f1_ f2_ f3_; subst f4_; subst f5_))
        obtain ⟨Ao39, co39, eo39⟩ := Kd.R_slice HO642.out
        (first | subst eo39 | (injection eo39 with f1_ f2_ f3_; have f4_ := f1_.symm; have f5_ := f3_.symm; clear f1_ f2_ f3_; subst f4_; subst f5_))
        refine hK.out _ _ ⟨(blk_cell BK637.out 0).trans rfl, (blk_cell BK637.out 1).trans rfl, (blk_cell BK637.out 2).trans rfl, ((HB.out.cell (World.block_lt_of_cell? w _ hw646_0)).trans hw646_0), ((HB.out.cell (World.block_lt_of_cell? w _ hw646_1)).trans hw646_1), ((HB.out.cell (World.block_lt_of_cell? w _ hw646_2)).trans hw646_2), ((HB.out.cell (World.block_lt_of_cell? w _ hw646_3)).trans hw646_3)⟩ (fun hHeld => ?_)
        clear hK K
        refine norm_ (a' := ?_) ?_ ?_
        rotate_left
        ·show Act.put _ (some 34) _ = _
         simp only [Act.put, List.setIfInBounds_toArray, List.set_cons_zero, List.set_cons_succ, i64_w, i32_w]
         rfl
        refine pure_ (i := 18) (N := some 35) (v := ?_) (a' := ?_) #[true, true, true, true, true, true, true, true, true, true, true, true, true, true, true, true, true, true, true, false, false] rfl rfl (any_of HT_.out (by kernel_rfl)) (fun _ _ _ h => h) (Or.inl ⟨by rfl, ?_⟩) ?_ ?_
        rotate_left
        ·intro w'
         go_simp
         with_reducible rfl
        rotate_left
        ·simp only [Act.put, List.setIfInBounds_toArray, List.set_cons_zero, List.set_cons_succ, i64_w, i32_w]
         rfl
        refine one_ (i := 19) (N := none) #[true, true, true, true, true, true, true, true, true, true, true, true, true, true, true, true, true, true, true, true, false] rfl rfl (one_of HT_.out (by kernel_rfl)) (by decide) (fun K hK => ?_)
        have hs40 : w36.cell? ⟨gb638, 0, none⟩ = some (.slice none 0 0) := (blk_cell BK638.out 0).trans rfl
        have hfs40 := blk_frozen BK638.out 0
        have hns40_0 := NB637_638.out
        have hms40_0 := NB638_637.out
        have hs41 : w36.cell? ⟨gb638, 1, none⟩ = some (.slice none 0 0) := (blk_cell BK638.out 1).trans rfl
        have hfs41 := blk_frozen BK638.out 1
        have hns41_0 := NB637_638.out
        have hms41_0 := NB638_637.out
        have hs42 : w36.cell? ⟨gb638, 2, none⟩ = some (.slice none 0 0) := (blk_cell BK638.out 2).trans rfl
        have hfs42 := blk_frozen BK638.out 2
        have hns42_0 := NB637_638.out
        have hms42_0 := NB638_637.out
        refine skip_ (w1 := ?_) (by rfl) rfl ?_ ?_
        rotate_left
        ·go_simp
         rfl
        refine hK.out _ _ ⟨((cell_far (p := ⟨gb638, _, none⟩) NB637_638.out _).trans (((cell_far (p := ⟨gb638, _, none⟩) NB637_638.out _).trans (((cell_far (p := ⟨gb638, _, none⟩) NB637_638.out _).trans (hHeld.1)))))), ((cell_far (p := ⟨gb638, _, none⟩) NB637_638.out _).trans (((cell_far (p := ⟨gb638, _, none⟩) NB637_638.out _).trans (((cell_far (p := ⟨gb638, _, none⟩) NB637_638.out _).trans (hHeld.2.1)))))), ((cell_far (p := ⟨gb638, _, none⟩) NB637_638.out _).trans (((cell_far (p := ⟨gb638, _, none⟩) NB637_638.out _).trans (((cell_far (p := ⟨gb638, _, none⟩) NB637_638.out _).trans (hHeld.2.2.1)))))), ((cell_far (p := ⟨gb638, _, none⟩) (by first | exact Nat.ne_of_lt (Nat.lt_of_lt_of_le (by have := World.block_lt_of_cell? _ _ hw646_0; first | rwa [add_block] at this | exact this) GW638.out) | (rw [add_block]; exact Nat.ne_of_lt (Nat.lt_of_lt_of_le (by have := World.block_lt_of_cell? _ _ hw646_0; first | rwa [add_block] at this | exact this) GW638.out)) | (show (Addr.add _ _).block ≠ _; rw [add_block]; exact Nat.ne_of_lt (Nat.lt_of_lt_of_le (by have := World.block_lt_of_cell? _ _ hw646_0; first | rwa [add_block] at this | exact this) GW638.out)) | (dsimp only; exact Nat.ne_of_lt (Nat.lt_of_lt_of_le (by have := World.block_lt_of_cell? _ _ hw646_0; first | rwa [add_block] at this | exact this) GW638.out))) _).trans (((cell_far (p := ⟨gb638, _, none⟩) (by first | exact Nat.ne_of_lt (Nat.lt_of_lt_of_le (by have := World.block_lt_of_cell? _ _ hw646_0; first | rwa [add_block] at this | exact this) GW638.out) | (rw [add_block]; exact Nat.ne_of_lt (Nat.lt_of_lt_of_le (by have := World.block_lt_of_cell? _ _ hw646_0; first | rwa [add_block] at this | exact this) GW638.out)) | (show (Addr.add _ _).block ≠ _; rw [add_block]; exact Nat.ne_of_lt (Nat.lt_of_lt_of_le (by have := World.block_lt_of_cell? _ _ hw646_0; first | rwa [add_block] at this | exact this) GW638.out)) | (dsimp only; exact Nat.ne_of_lt (Nat.lt_of_lt_of_le (by have := World.block_lt_of_cell? _ _ hw646_0; first | rwa [add_block] at this | exact this) GW638.out))) _).trans (((cell_far (p := ⟨gb638, _, none⟩) (by first | exact Nat.ne_of_lt (Nat.lt_of_lt_of_le (by have := World.block_lt_of_cell? _ _ hw646_0; first | rwa [add_block] at this | exact this) GW638.out) | (rw [add_block]; exact Nat.ne_of_lt (Nat.lt_of_lt_of_le (by have := World.block_lt_of_cell? _ _ hw646_0; first | rwa [add_block] at this | exact this) GW638.out)) | (show (Addr.add _ _).block ≠ _; rw [add_block]; exact Nat.ne_of_lt (Nat.lt_of_lt_of_le (by have := World.block_lt_of_cell? _ _ hw646_0; first | rwa [add_block] at this | exact this) GW638.out)) | (dsimp only; exact Nat.ne_of_lt (Nat.lt_of_lt_of_le (by have := World.block_lt_of_cell? _ _ hw646_0; first | rwa [add_block] at this | exact this) GW638.out))) _).trans (hHeld.2.2.2.1)))))), ((cell_far (p := ⟨gb638, _, none⟩) (by first | exact Nat.ne_of_lt (Nat.lt_of_lt_of_le (by have := World.block_lt_of_cell? _ _ hw646_1; first | rwa [add_block] at this | exact this) GW638.out) | (rw [add_block]; exact Nat.ne_of_lt (Nat.lt_of_lt_of_le (by have := World.block_lt_of_cell? _ _ hw646_1; first | rwa [add_block] at this | exact this) GW638.out)) | (show (Addr.add _ _).block ≠ _; rw [add_block]; exact Nat.ne_of_lt (Nat.lt_of_lt_of_le (by have := World.block_lt_of_cell? _ _ hw646_1; first | rwa [add_block] at this | exact this) GW638.out)) | (dsimp only; exact Nat.ne_of_lt (Nat.lt_of_lt_of_le (by have := World.block_lt_of_cell? _ _ hw646_1; first | rwa [add_block] at this | exact this) GW638.out))) _).trans (((cell_far (p := ⟨gb638, _, none⟩) (by first | exact Nat.ne_of_lt (Nat.lt_of_lt_of_le (by have := World.block_lt_of_cell? _ _ hw646_1; first | rwa [add_block] at this | exact this) GW638.out) | (rw [add_block]; exact Nat.ne_of_lt (Nat.lt_of_lt_of_le (by have := World.block_lt_of_cell? _ _ hw646_1; first | rwa [add_block] at this | exact this) GW638.out)) | (show (Addr.add _ _).block ≠ _; rw [add_block]; exact Nat.ne_of_lt (Nat.lt_of_lt_of_le (by have := World.block_lt_of_cell? _ _ hw646_1; first | rwa [add_block] at this | exact this) GW638.out)) | (dsimp only; exact Nat.ne_of_lt (Nat.lt_of_lt_of_le (by have := World.block_lt_of_cell? _ _ hw646_1; first | rwa [add_block] at this | exact this) GW638.out))) _).trans (((cell_far (p := ⟨gb638, _, none⟩) (by first | exact Nat.ne_of_lt (Nat.lt_of_lt_of_le (by have := World.block_lt_of_cell? _ _ hw646_1; first | rwa [add_block] at this | exact this) GW638.out) | (rw [add_block]; exact Nat.ne_of_lt (Nat.lt_of_lt_of_le (by have := World.block_lt_of_cell? _ _ hw646_1; first | rwa [add_block] at this | exact this) GW638.out)) | (show (Addr.add _ _).block ≠ _; rw [add_block]; exact Nat.ne_of_lt (Nat.lt_of_lt_of_le (by have := World.block_lt_of_cell? _ _ hw646_1; first | rwa [add_block] at this | exact this) GW638.out)) | (dsimp only; exact Nat.ne_of_lt (Nat.lt_of_lt_of_le (by have := World.block_lt_of_cell? _ _ hw646_1; first | rwa [add_block] at this | exact this) GW638.out))) _).trans (hHeld.2.2.2.2.1)))))), ((cell_far (p := ⟨gb638, _, none⟩) (by first | exact Nat.ne_of_lt (Nat.lt_of_lt_of_le (by have := World.block_lt_of_cell? _ _ hw646_2; first | rwa [add_block] at this | exact this) GW638.out) | (rw [add_block]; exact Nat.ne_of_lt (Nat.lt_of_lt_of_le (by have := World.block_lt_of_cell? _ _ hw646_2; first | rwa [add_block] at this | exact this) GW638.out)) | (show (Addr.add _ _).block ≠ _; rw [add_block]; exact Nat.ne_of_lt (Nat.lt_of_lt_of_le (by have := World.block_lt_of_cell? _ _ hw646_2; first | rwa [add_block] at this | exact this) GW638.out)) | (dsimp only; exact Nat.ne_of_lt (Nat.lt_of_lt_of_le (by have := World.block_lt_of_cell? _ _ hw646_2; first | rwa [add_block] at this | exact this) GW638.out))) _).trans (((cell_far (p := ⟨gb638, _, none⟩) (by first | exact Nat.ne_of_lt (Nat.lt_of_lt_of_le (by have := World.block_lt_of_cell? _ _ hw646_2; first | rwa [add_block] at this | exact this) GW638.out) | (rw [add_block]; exact Nat.ne_of_lt (Nat.lt_of_lt_of_le (by have := World.block_lt_of_cell? _ _ hw646_2; first | rwa [add_block] at this | exact this) GW638.out)) | (show (Addr.add _ _).block ≠ _; rw [add_block]; exact Nat.ne_of_lt (Nat.lt_of_lt_of_le (by have := World.block_lt_of_cell? _ _ hw646_2; first | rwa [add_block] at this | exact this) GW638.out)) | (dsimp only; exact Nat.ne_of_lt (Nat.lt_of_lt_of_le (by have := World.block_lt_of_cell? _ _ hw646_2; first | rwa [add_block] at this | exact this) GW638.out))) _).trans (((cell_far (p := ⟨gb638, _, none⟩) (by first | exact Nat.ne_of_lt (Nat.lt_of_lt_of_le (by have := World.block_lt_of_cell? _ _ hw646_2; first | rwa [add_block] at this | exact this) GW638.out) | (rw [add_block]; exact Nat.ne_of_lt (Nat.lt_of_lt_of_le (by have := World.block_lt_of_cell? _ _ hw646_2; first | rwa [add_block] at this | exact this) GW638.out)) | (show (Addr.add _ _).block ≠ _; rw [add_block]; exact Nat.ne_of_lt (Nat.lt_of_lt_of_le (by have := World.block_lt_of_cell? _ _ hw646_2; first | rwa [add_block] at this | exact this) GW638.out)) | (dsimp only; exact Nat.ne_of_lt (Nat.lt_of_lt_of_le (by have := World.block_lt_of_cell? _ _ hw646_2; first | rwa [add_block] at this | exact this) GW638.out))) _).trans (hHeld.2.2.2.2.2.1)))))), ((cell_far (p := ⟨gb638, _, none⟩) (by first | exact Nat.ne_of_lt (Nat.lt_of_lt_of_le (by have := World.block_lt_of_cell? _ _ hw646_3; first | rwa [add_block] at this | exact this) GW638.out) | (rw [add_block]; exact Nat.ne_of_lt (Nat.lt_of_lt_of_le (by have := World.block_lt_of_cell? _ _ hw646_3; first | rwa [add_block] at this | exact this) GW638.out)) | (show (Addr.add _ _).block ≠ _; rw [add_block]; exact Nat.ne_of_lt (Nat.lt_of_lt_of_le (by have := World.block_lt_of_cell? _ _ hw646_3; first | rwa [add_block] at this | exact this) GW638.out)) | (dsimp only; exact Nat.ne_of_lt (Nat.lt_of_lt_of_le (by have := World.block_lt_of_cell? _ _ hw646_3; first | rwa [add_block] at this | exact this) GW638.out))) _).trans (((cell_far (p := ⟨gb638, _, none⟩) (by first | exact Nat.ne_of_lt (Nat.lt_of_lt_of_le (by have := World.block_lt_of_cell? _ _ hw646_3; first | rwa [add_block] at this | exact this) GW638.out) | (rw [add_block]; exact Nat.ne_of_lt (Nat.lt_of_lt_of_le (by have := World.block_lt_of_cell? _ _ hw646_3; first | rwa [add_block] at this | exact this) GW638.out)) | (show (Addr.add _ _).block ≠ _; rw [add_block]; exact Nat.ne_of_lt (Nat.lt_of_lt_of_le (by have := World.block_lt_of_cell? _ _ hw646_3; first | rwa [add_block] at this | exact this) GW638.out)) | (dsimp only; exact Nat.ne_of_lt (Nat.lt_of_lt_of_le (by have := World.block_lt_of_cell? _ _ hw646_3; first | rwa [add_block] at this | exact this) GW638.out))) _).trans (((cell_far (p := ⟨gb638, _, none⟩) (by first | exact Nat.ne_of_lt (Nat.lt_of_lt_of_le (by have := World.block_lt_of_cell? _ _ hw646_3; first | rwa [add_block] at this | exact this) GW638.out) | (rw [add_block]; exact Nat.ne_of_lt (Nat.lt_of_lt_of_le (by have := World.block_lt_of_cell? _ _ hw646_3; first | rwa [add_block] at this | exact this) GW638.out)) | (show (Addr.add _ _).block ≠ _; rw [add_block]; exact Nat.ne_of_lt (Nat.lt_of_lt_of_le (by have := World.block_lt_of_cell? _ _ hw646_3; first | rwa [add_block] at this | exact this) GW638.out)) | (dsimp only; exact Nat.ne_of_lt (Nat.lt_of_lt_of_le (by have := World.block_lt_of_cell? _ _ hw646_3; first | rwa [add_block] at this | exact this) GW638.out))) _).trans (hHeld.2.2.2.2.2.2))))))⟩ (fun hHeld => ?_)
        clear hK K
        refine pure_ (i := 20) (N := some 3) (v := ?_) (a' := ?_) #[true, true, true, true, true, true, true, true, true, true, true, true, true, true, true, true, true, true, true, true, true] rfl rfl (any_of HT_.out (by kernel_rfl)) (fun _ _ _ h => h) (Or.inl ⟨by rfl, ?_⟩) ?_ ?_
        rotate_left
        ·intro w'
         go_simp
         with_reducible rfl
        rotate_left
        ·simp only [Act.put, List.setIfInBounds_toArray, List.set_cons_zero, List.set_cons_succ, i64_w, i32_w]
         rfl
        refine done_ (done_of HT_.out (by kernel_rfl)) ?_
        try go_wp2
        refine bodyPost_ret (results_ct rfl _ _ gb638 35 #[.slice Ao39 t640.length co39, .slice Ao38 y650.length co38, .slice Ao37 t657.length co37] (0, 0) _ rfl (by (with_reducible repeat (first | apply lN_ | apply lD_ | apply lA_)); refine blk_put (cs := #[.slice Ao39 t640.length co39, .slice Ao38 y650.length co38, .slice none 0 0]) ?_ 2 _ rfl; (with_reducible repeat (first | apply lN_ | apply lD_ | apply lA_)); refine blk_put (cs := #[.slice Ao39 t640.length co39, .slice none 0 0, .slice none 0 0]) ?_ 1 _ rfl; (with_reducible repeat (first | apply lN_ | apply lD_ | apply lA_)); refine blk_put (cs := #[.slice none 0 0, .slice none 0 0, .slice none 0 0]) ?_ 0 _ rfl; (with_reducible repeat (first | apply lN_ | apply lD_ | apply lA_)); exact BK638.out) Try.underlying35 rfl (by kernel_rfl)) rfl ?_
        exact ⟨_, _, _, by first | rfl | (simp [errW_none, errW_some] <;> rfl) | (simp only [← hji20]; first | rfl | (simp [errW_none, errW_some] <;> rfl)) | (simp [*, errW_none, errW_some] <;> rfl), by (with_reducible repeat (first | apply rA_ | apply rN_ | apply rD_)); exact Kd.R_mono (fr_ (fr_ (fr_ (ft_ HO642 BK638) 0 (.slice Ao39 t640.length co39)) 1 (.slice Ao38 y650.length co38)) 2 (.slice Ao37 t657.length co37)) (fun _ hk => trivial), by (with_reducible repeat (first | apply rA_ | apply rN_ | apply rD_)); exact Kd.R_mono (fr_ (fr_ (fr_ (ft_ HO652 BK638) 0 (.slice Ao39 t640.length co39)) 1 (.slice Ao38 y650.length co38)) 2 (.slice Ao37 t657.length co37)) (fun _ hk => hk.1.2), by (with_reducible repeat (first | apply rA_ | apply rN_ | apply rD_)); exact Kd.R_mono (fr_ (fr_ (fr_ (ft_ HO659 BK638) 0 (.slice Ao39 t640.length co39)) 1 (.slice Ao38 y650.length co38)) 2 (.slice Ao37 t657.length co37)) (fun _ hk => hk.1.2), bb2_ HB GE637 GE638⟩
       ·rw [if_neg c25] at H
        exact absurd H (by simp)
      ·rw [if_neg c23] at H
       exact absurd H (by simp)
     ·rw [if_neg c22] at H
      exact absurd H (by simp)
    ·rw [if_neg c21] at H
     exact absurd H (by simp)

end Go.Proofs.Ytmmpnigbfiebbaa.PA
