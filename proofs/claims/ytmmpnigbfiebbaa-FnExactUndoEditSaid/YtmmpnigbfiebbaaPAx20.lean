-- Written by a program of this session (wip/tools/myprint.py). Not trusted: Lean checks it.
import Derived.Test.YtmmpnigbfiebbaaPAx0
import Derived.Test.YtmmpnigbfiebbaaPAx3
import Derived.Test.YtmmpnigbfiebbaaPAx5
import Derived.Test.YtmmpnigbfiebbaaPAx6
import Derived.Test.YtmmpnigbfiebbaaPAx8
namespace Go.Proofs.Ytmmpnigbfiebbaa.PA
open Go.RowKit Go.Proofs.YtmmpnigbfiebbaaW.PrintWords Go.Proofs.YtmmpnigbfiebbaaW.PrintLast Go.Proofs.YtmmpnigbfiebbaaW.PrintMore
attribute [local go_sem] max2_int min2_int max_two min_two max_three min_three max_four min_four   -- for this text's walks alone
set_option linter.unusedVariables false
set_option linter.unusedSimpArgs false

/-! ### spec_UndoEdit: function 39 -/
def spec_UndoEdit.f (k : Nat) (l0_0 : List ByteArray) (l0_1 : List (S25)) (l0_2 : List (S25)) : Option (List ByteArray × (List (S25)) × (List (S25)) × Bool) := (spec_unGood.f k l0_0 l0_1 l0_2).bind fun t748 => (if t748 = true then (if (l0_1.length : Int) = 0 then (some (([] : List ByteArray), ([] : List (S25)), ([] : List (S25)), false)) else (if 0 ≤ (wrap64 ((l0_1.length : Int) - 1)) then (if (wrap64 ((l0_1.length : Int) - 1)) ≤ (l0_1.length : Int) then ((some (([] : List (S25)) : List (S25))).bind fun y753 => (if y753.length + l0_2.length < 2932031007402 then ((some (y753 ++ l0_2 : List (S25))).bind fun y756 => (if (wrap64 ((l0_1.length : Int) - 1)) < (l0_1.length : Int) then ((some (([(⟨(rd_T25 l0_1 (wrap64 ((l0_1.length : Int) - 1))).f0, (rd_T25 l0_1 (wrap64 ((l0_1.length : Int) - 1))).f1, (rd_T25 l0_1 (wrap64 ((l0_1.length : Int) - 1))).f2, (rd_T25 l0_1 (wrap64 ((l0_1.length : Int) - 1))).f3⟩ : S25)] : List (S25)) : List (S25))).bind fun y760 => (if y756.length + y760.length < 2932031007402 then ((spec_unDesk.f l0_0 l0_1 l0_2 (l0_1.take ((wrap64 ((l0_1.length : Int) - 1)) : Int).toNat) (y756 ++ y760)).bind fun bt766 => (some (bt766.1, bt766.2.1, bt766.2.2, true))) else (none))) else (none))) else (none))) else (none)) else (none))) else (some (([] : List ByteArray), ([] : List (S25)), ([] : List (S25)), false)))
theorem spec_UndoEdit.mono : ∀ a0 a1 a2 k, LeO (spec_UndoEdit.f k a0 a1 a2) (spec_UndoEdit.f (k + 1) a0 a1 a2) := by
 intro a0 a1 a2 k
 unfold spec_UndoEdit.f
 repeat' first
   | (with_reducible exact spec_unGood.mono _ _ _ _)
   | (with_reducible exact LeO.refl _)
   | (with_reducible exact LeO.none _)
   | (with_reducible refine LeO.ite ?_ ?_)
   | (with_reducible refine LeO.bind ?_ (fun _ => ?_))
   | exact LeO.none _
   | refine LeO.ite ?_ ?_
   | refine LeO.bind ?_ (fun _ => ?_)
def spec_UndoEdit.T4 : Bool × List (List Nat × List Nat) := (true, [([], []), ([], []), ([1], [1]), ([], []), ([3], [3]), ([2, 4], [2, 4]), ([], []), ([], []), ([7], [7]), ([6, 8], [6, 8]), ([], []), ([10], [10]), ([], []), ([12], [12]), ([11, 13], [11, 13]), ([14], [14]), ([15], [15]), ([9, 16, 9], [9, 16]), ([0, 5, 17, 17], [0, 5, 17]), ([18, 18, 0, 1, 2, 3, 4, 5, 6, 7, 8, 9, 10, 11, 12, 13, 14, 15, 16, 17, 18], [18]), ([19, 0, 1, 2, 3, 4, 5, 6, 7, 8, 9, 10, 11, 12, 13, 14, 15, 16, 17, 18, 19], [])])
def spec_UndoEdit.B4 : List Nat := [0, 0, 2, 0, 8, 30, 0, 0, 128, 448, 0, 1024, 0, 4096, 15360, 31744, 64512, 131008, 262143, 524287, 1048575]
theorem spec_UndoEdit.tab4 : rtab .any (opsOf Try.f39 4) = spec_UndoEdit.T4 := by kernel_rfl
theorem spec_UndoEdit.bits4 : waitsOk spec_UndoEdit.T4.2 spec_UndoEdit.B4 = true := by kernel_rfl
set_option maxHeartbeats 8000000 in
set_option maxRecDepth 100000 in
theorem spec_UndoEdit.calls (k : Nat) (A0_0 : Option Addr) (c0_0 : Nat) (l0_0 : List ByteArray) (A0_1 : Option Addr) (c0_1 : Nat) (l0_1 : List (S25)) (A0_2 : Option Addr) (c0_2 : Nat) (l0_2 : List (S25)) (r1 : List ByteArray) (r2 : List (S25)) (r3 : List (S25)) (r4 : Bool) (w : World) (hr0_0 : Kd.C Kd.string w A0_0 l0_0.length l0_0) (hc0_0 : l0_0.length ≤ c0_0) (hr0_1 : Kd.C k25 w A0_1 l0_1.length l0_1) (hc0_1 : l0_1.length ≤ c0_1) (hr0_2 : Kd.C k25 w A0_2 l0_2.length l0_2) (hc0_2 : l0_2.length ≤ c0_2) (h : spec_UndoEdit.f k l0_0 l0_1 l0_2 = some (r1, r2, r3, r4)) :
  Calls Try.prog 39 #[.agg #[.slice A0_0 l0_0.length c0_0, .slice A0_1 l0_1.length c0_1, .slice A0_2 l0_2.length c0_2]] w fun e w' => ∃ v0_ v1_ v2_ : Value, e = .returned (.tuple #[.agg #[v0_, v1_, v2_], .bool r4]) ∧ Kd.R Kd.string 9 w' w.heap.size (fun _ => True) v0_ r1 ∧ Kd.R k25 25 w' w.heap.size (fun k_ => some k_ ≠ (v2_ : Value).ownBlock) v1_ r2 ∧ Kd.R k25 25 w' w.heap.size (fun k_ => some k_ ≠ (v1_ : Value).ownBlock) v2_ r3 ∧ Below w.heap.size w w' := by
 have hu35 := Try.underlying35
 have hu25 := Try.underlying25
 have HR0_0 := Aside0.mk hr0_0
 have HC0_0 := Aside0.mk hc0_0
 clear hr0_0 hc0_0
 have HR0_1 := Aside0.mk hr0_1
 have HC0_1 := Aside0.mk hc0_1
 clear hr0_1 hc0_1
 have HR0_2 := Aside0.mk hr0_2
 have HC0_2 := Aside0.mk hc0_2
 clear hr0_2 hc0_2
 have HB := Aside0.mk (Below.refl w.heap.size w)
 have H : ((spec_unGood.f k l0_0 l0_1 l0_2).bind fun t748 => (if t748 = true then (if (l0_1.length : Int) = 0 then (some (([] : List ByteArray), ([] : List (S25)), ([] : List (S25)), false)) else (if 0 ≤ (wrap64 ((l0_1.length : Int) - 1)) then (if (wrap64 ((l0_1.length : Int) - 1)) ≤ (l0_1.length : Int) then ((some (([] : List (S25)) : List (S25))).bind fun y753 => (if y753.length + l0_2.length < 2932031007402 then ((some (y753 ++ l0_2 : List (S25))).bind fun y756 => (if (wrap64 ((l0_1.length : Int) - 1)) < (l0_1.length : Int) then ((some (([(⟨(rd_T25 l0_1 (wrap64 ((l0_1.length : Int) - 1))).f0, (rd_T25 l0_1 (wrap64 ((l0_1.length : Int) - 1))).f1, (rd_T25 l0_1 (wrap64 ((l0_1.length : Int) - 1))).f2, (rd_T25 l0_1 (wrap64 ((l0_1.length : Int) - 1))).f3⟩ : S25)] : List (S25)) : List (S25))).bind fun y760 => (if y756.length + y760.length < 2932031007402 then ((spec_unDesk.f l0_0 l0_1 l0_2 (l0_1.take ((wrap64 ((l0_1.length : Int) - 1)) : Int).toNat) (y756 ++ y760)).bind fun bt766 => (some (bt766.1, bt766.2.1, bt766.2.2, true))) else (none))) else (none))) else (none))) else (none)) else (none))) else (some (([] : List ByteArray), ([] : List (S25)), ([] : List (S25)), false)))) = some (r1, r2, r3, r4) := h
 clear h
 replace H := Option.bind_eq_some_iff.mp H
 obtain ⟨t748, A20, H⟩ := H
 try dsimp only at H
 have A2 := Aside0.mk A20
 clear A20
 by_cases c3 : t748 = true
 ·subst c3
  have H1 : (if (l0_1.length : Int) = 0 then (some (([] : List ByteArray), ([] : List (S25)), ([] : List (S25)), false)) else (if 0 ≤ (wrap64 ((l0_1.length : Int) - 1)) then (if (wrap64 ((l0_1.length : Int) - 1)) ≤ (l0_1.length : Int) then ((some (([] : List (S25)) : List (S25))).bind fun y753 => (if y753.length + l0_2.length < 2932031007402 then ((some (y753 ++ l0_2 : List (S25))).bind fun y756 => (if (wrap64 ((l0_1.length : Int) - 1)) < (l0_1.length : Int) then ((some (([(⟨(rd_T25 l0_1 (wrap64 ((l0_1.length : Int) - 1))).f0, (rd_T25 l0_1 (wrap64 ((l0_1.length : Int) - 1))).f1, (rd_T25 l0_1 (wrap64 ((l0_1.length : Int) - 1))).f2, (rd_T25 l0_1 (wrap64 ((l0_1.length : Int) - 1))).f3⟩ : S25)] : List (S25)) : List (S25))).bind fun y760 => (if y756.length + y760.length < 2932031007402 then ((spec_unDesk.f l0_0 l0_1 l0_2 (l0_1.take ((wrap64 ((l0_1.length : Int) - 1)) : Int).toNat) (y756 ++ y760)).bind fun bt766 => (some (bt766.1, bt766.2.1, bt766.2.2, true))) else (none))) else (none))) else (none))) else (none)) else (none))) = some (r1, r2, r3, r4) := by rw [if_pos rfl] at H; exact H
  clear H
  have H := H1
  clear H1
  by_cases c4 : (l0_1.length : Int) = 0
  ·rw [if_pos c4] at H
   have c4b0 : ((l0_1.length : Int) == 0) = true := beq_iff_eq.mpr c4
   have c4b1 : ((l0_1.length : Int) != 0) = false := bne_eq_false_iff_eq.mpr c4
   clear c4
   simp only [Option.some.injEq, Prod.mk.injEq] at H
   obtain ⟨rfl, rfl, rfl, rfl⟩ := H
   go_enter Try.func39, Try.ntmps39
   go_wp2_with (first | ((with_reducible refine gate_dst (N := 1) rfl ?_); refine box_event ?hg (N := 1) ?hd (cs := #[.slice A0_0 l0_0.length c0_0, .slice A0_1 l0_1.length c0_1, .slice A0_2 l0_2.length c0_2]) (t := 35) ?hr ?_; (case hd => rfl); (case hg => rfl); (case hr => first | (go_simp; done) | (go_simp; rfl)); intro gb746 hg w5 hbox hb; have n0_ := Aside0.mk (bt_ HB hb); have n1_ := Aside0.mk (hbox); have n2_ := Aside0.mk ((by rw [hg]; exact (bz_ HB) : w.heap.size ≤ gb746)); have n3_ := Aside0.mk ((by rw [hg]; exact (bz_ HB) : w.heap.size ≤ gb746)); clear HB; have HB := n0_; have BK746 := n1_; have GW746 := n2_; have GE746 := n3_; clear n0_ n1_ n2_ n3_; clear hb hbox hg) | ((with_reducible refine gate_dst (N := 2) rfl ?_); refine box_event ?hg (N := 2) ?hd (cs := #[.slice none 0 0, .slice none 0 0, .slice none 0 0]) (t := 35) ?hr ?_; (case hd => rfl); (case hg => rfl); (case hr => first | (go_simp; done) | (go_simp; rfl)); intro gb747 hg w6 hbox hb; have n0_ := Aside0.mk (lb_ BK746 hb); have n1_ := Aside0.mk (below_step (bb1_ HB GE746) hb); have n2_ := Aside0.mk (hbox); have n3_ := Aside0.mk ((by rw [hg]; exact (below_size (bb1_ HB GE746)) : w.heap.size ≤ gb747)); have n4_ := Aside0.mk ((by rw [hg]; exact (below_size (bb1_ HB GE746)) : w.heap.size ≤ gb747)); have n5_ := Aside0.mk ((by rw [hg]; exact Nat.ne_of_lt (blk_lt (g := gb746) (o := .cells #[.slice A0_0 l0_0.length c0_0, .slice A0_1 l0_1.length c0_1, .slice A0_2 l0_2.length c0_2] 35 (0, 0)) (la_ BK746)) : gb746 ≠ gb747)); have n6_ := Aside0.mk ((by rw [hg]; exact Nat.ne_of_gt (blk_lt (g := gb746) (o := .cells #[.slice A0_0 l0_0.length c0_0, .slice A0_1 l0_1.length c0_1, .slice A0_2 l0_2.length c0_2] 35 (0, 0)) (la_ BK746)) : gb747 ≠ gb746)); clear BK746; clear HB; have BK746 := n0_; have HB := n1_; have BK747 := n2_; have GW747 := n3_; have GE747 := n4_; have NB746_747 := n5_; have NB747_746 := n6_; clear n0_ n1_ n2_ n3_ n4_ n5_ n6_; clear hb hbox hg; have hnb7 := NB746_747.out; have hnc7 := NB747_746.out; have hcz8_0 : w6.cell? ⟨gb746, 0, none⟩ = some (.slice A0_0 l0_0.length c0_0) := (blk_cell BK746.out 0).trans rfl; have hcz8_1 : w6.cell? ⟨gb746, 1, none⟩ = some (.slice A0_1 l0_1.length c0_1) := (blk_cell BK746.out 1).trans rfl; have hcz8_2 : w6.cell? ⟨gb746, 2, none⟩ = some (.slice A0_2 l0_2.length c0_2) := (blk_cell BK746.out 2).trans rfl; have hfz8_0 := blk_frozen BK746.out 0; have hfz8_1 := blk_frozen BK746.out 1; have hfz8_2 := blk_frozen BK746.out 2) | ((with_reducible refine gate_callee (f := 59) rfl ?_); refine goesL_ (some 9) rfl rfl Try.func59 (by kernel_rfl) rfl #[.agg #[.slice A0_0 l0_0.length c0_0, .slice A0_1 l0_1.length c0_1, .slice A0_2 l0_2.length c0_2]] rfl args_ ?_; (with_reducible refine (spec_unGood.calls k _ _ l0_0 _ _ l0_1 _ _ l0_2 true _ ?side1 ?side2 ?side3 ?side4 ?side5 ?side6 A2.out).mono ?_); (case side1 => repeat (first | exact (Kd.C_below HR0_0.out HB.out) | (with_reducible first | apply cA_ | apply cN_ | apply cD_))); (case side2 => exact HC0_0.out); (case side3 => repeat (first | exact (Kd.C_below HR0_1.out HB.out) | (with_reducible first | apply cA_ | apply cN_ | apply cD_))); (case side4 => exact HC0_1.out); (case side5 => repeat (first | exact (Kd.C_below HR0_2.out HB.out) | (with_reducible first | apply cA_ | apply cN_ | apply cD_))); (case side6 => exact HC0_2.out); rintro e w9 ⟨rfl, hb⟩; refine ⟨_, rfl, ?_⟩; have n0_ := Aside0.mk (lb_ BK746 hb); have n1_ := Aside0.mk (lb_ BK747 hb); have n2_ := Aside0.mk (below_step (bb2_ HB GE746 GE747) hb); clear BK746; clear BK747; clear HB; have BK746 := n0_; have BK747 := n1_; have HB := n2_; clear n0_ n1_ n2_; (try clear hb); (try clear hb2); (try clear hk); (try clear hi); have hcz10_0 : w9.cell? ⟨gb747, 0, none⟩ = some (.slice none 0 0) := (blk_cell BK747.out 0).trans rfl; have hcz10_1 : w9.cell? ⟨gb747, 1, none⟩ = some (.slice none 0 0) := (blk_cell BK747.out 1).trans rfl; have hcz10_2 : w9.cell? ⟨gb747, 2, none⟩ = some (.slice none 0 0) := (blk_cell BK747.out 2).trans rfl; have hfz10_0 := blk_frozen BK747.out 0; have hfz10_1 := blk_frozen BK747.out 1; have hfz10_2 := blk_frozen BK747.out 2))
   refine bodyPost_ret (results_ct rfl _ _ gb747 35 #[.slice none 0 0, .slice none 0 0, .slice none 0 0] (0, 0) _ rfl (by (with_reducible repeat (first | apply lN_ | apply lD_ | apply lA_)); refine blk_put (cs := #[.slice none 0 0, .slice none 0 0, .slice none 0 0]) ?_ 2 _ rfl; (with_reducible repeat (first | apply lN_ | apply lD_ | apply lA_)); refine blk_put (cs := #[.slice none 0 0, .slice none 0 0, .slice none 0 0]) ?_ 1 _ rfl; (with_reducible repeat (first | apply lN_ | apply lD_ | apply lA_)); refine blk_put (cs := #[.slice none 0 0, .slice none 0 0, .slice none 0 0]) ?_ 0 _ rfl; (with_reducible repeat (first | apply lN_ | apply lD_ | apply lA_)); exact BK747.out) Try.underlying35 rfl (by kernel_rfl)) rfl ?_
   exact ⟨_, _, _, by first | rfl | (simp [errW_none, errW_some] <;> rfl) | (simp [*, errW_none, errW_some] <;> rfl), by first | exact Kd.R_nil _ _ _ _ _ | exact Kd.N_nil _ _ _ _ _ | exact Kd.V_nil _ _ _ _ _ | exact Kd.Q_nil _ _ _ _ _ | exact Kd.S_nil _ _ _ _ _, by first | exact Kd.R_nil _ _ _ _ _ | exact Kd.N_nil _ _ _ _ _ | exact Kd.V_nil _ _ _ _ _ | exact Kd.Q_nil _ _ _ _ _ | exact Kd.S_nil _ _ _ _ _, by first | exact Kd.R_nil _ _ _ _ _ | exact Kd.N_nil _ _ _ _ _ | exact Kd.V_nil _ _ _ _ _ | exact Kd.Q_nil _ _ _ _ _ | exact Kd.S_nil _ _ _ _ _, bb2_ HB GE746 GE747⟩
  ·rw [if_neg c4] at H
   have c4b0 : ((l0_1.length : Int) == 0) = false := beq_eq_false_iff_ne.mpr c4
   have c4b1 : ((l0_1.length : Int) != 0) = true := bne_iff_ne.mpr c4
   have c4b2 : ¬ (l0_1 = []) := fun h_ => c4 (by rw [h_]; rfl)
   obtain ⟨ji11, hji11⟩ : ∃ j_ : Int, (wrap64 ((l0_1.length : Int) - 1)) = j_ := ⟨_, rfl⟩
   replace H : (if 0 ≤ (ji11) then (if (ji11) ≤ (l0_1.length : Int) then ((some (([] : List (S25)) : List (S25))).bind fun y753 => (if y753.length + l0_2.length < 2932031007402 then ((some (y753 ++ l0_2 : List (S25))).bind fun y756 => (if (ji11) < (l0_1.length : Int) then ((some (([(⟨(rd_T25 l0_1 (ji11)).f0, (rd_T25 l0_1 (ji11)).f1, (rd_T25 l0_1 (ji11)).f2, (rd_T25 l0_1 (ji11)).f3⟩ : S25)] : List (S25)) : List (S25))).bind fun y760 => (if y756.length + y760.length < 2932031007402 then ((spec_unDesk.f l0_0 l0_1 l0_2 (l0_1.take ((ji11) : Int).toNat) (y756 ++ y760)).bind fun bt766 => (some (bt766.1, bt766.2.1, bt766.2.2, true))) else (none))) else (none))) else (none))) else (none)) else (none)) = some (r1, r2, r3, r4) := by first | (rw [hji11] at H; exact H) | (simp only [hji11] at H ⊢; exact H)
   (try rw [hji11] at A2)
   have hji11w : (IntKind.i64.wrap ((l0_1.length : Int) - 1)) = ji11 := (i64_w _).trans hji11
   by_cases c12 : 0 ≤ (ji11)
   ·rw [if_pos c12] at H
    have c12b0 := eq_true c12
    have c12b1 : decide (0 ≤ (ji11)) = true := decide_eq_true c12
    clear c12
    by_cases c13 : (ji11) ≤ (l0_1.length : Int)
    ·rw [if_pos c13] at H
     have c13b0 := eq_true c13
     have c13b1 : decide ((ji11) ≤ (l0_1.length : Int)) = true := decide_eq_true c13
     clear c13
     obtain ⟨y749, hy749⟩ : ∃ y_ : List (S25), y_ = (l0_1.take ((ji11) : Int).toNat) := ⟨_, rfl⟩
     replace H : ((some (([] : List (S25)) : List (S25))).bind fun y753 => (if y753.length + l0_2.length < 2932031007402 then ((some (y753 ++ l0_2 : List (S25))).bind fun y756 => (if (ji11) < (l0_1.length : Int) then ((some (([(⟨(rd_T25 l0_1 (ji11)).f0, (rd_T25 l0_1 (ji11)).f1, (rd_T25 l0_1 (ji11)).f2, (rd_T25 l0_1 (ji11)).f3⟩ : S25)] : List (S25)) : List (S25))).bind fun y760 => (if y756.length + y760.length < 2932031007402 then ((spec_unDesk.f l0_0 l0_1 l0_2 y749 (y756 ++ y760)).bind fun bt766 => (some (bt766.1, bt766.2.1, bt766.2.2, true))) else (none))) else (none))) else (none))) = some (r1, r2, r3, r4) := by first | (rw [hy749]; with_reducible exact H) | (have H2_ := (Option.bind_some _ _).symm.trans H; rw [hy749]; with_reducible exact H2_) | (have H2_ := (Option.bind_some _ _).symm.trans H; with_reducible exact H2_) | with_reducible exact H | (rw [hy749]; exact H) | exact H
     have Ny749 := Aside0.mk hy749
     clear hy749
     obtain ⟨y753, hy753⟩ : ∃ y_ : List (S25), y_ = (([] : List (S25))) := ⟨_, rfl⟩
     replace H : (if y753.length + l0_2.length < 2932031007402 then ((some (y753 ++ l0_2 : List (S25))).bind fun y756 => (if (ji11) < (l0_1.length : Int) then ((some (([(⟨(rd_T25 l0_1 (ji11)).f0, (rd_T25 l0_1 (ji11)).f1, (rd_T25 l0_1 (ji11)).f2, (rd_T25 l0_1 (ji11)).f3⟩ : S25)] : List (S25)) : List (S25))).bind fun y760 => (if y756.length + y760.length < 2932031007402 then ((spec_unDesk.f l0_0 l0_1 l0_2 y749 (y756 ++ y760)).bind fun bt766 => (some (bt766.1, bt766.2.1, bt766.2.2, true))) else (none))) else (none))) else (none)) = some (r1, r2, r3, r4) := by first | (rw [hy753]; with_reducible exact H) | (have H2_ := (Option.bind_some _ _).symm.trans H; rw [hy753]; with_reducible exact H2_) | (have H2_ := (Option.bind_some _ _).symm.trans H; with_reducible exact H2_) | with_reducible exact H | (rw [hy753]; exact H) | exact H
     have Ny753 := Aside0.mk hy753
     clear hy753
     by_cases c14 : y753.length + l0_2.length < 2932031007402
     ·rw [if_pos c14] at H
      have LMc14 := Aside0.mk c14
      clear c14
      obtain ⟨y756, hy756⟩ : ∃ y_ : List (S25), y_ = (y753 ++ l0_2) := ⟨_, rfl⟩
      replace H : (if (ji11) < (l0_1.length : Int) then ((some (([(⟨(rd_T25 l0_1 (ji11)).f0, (rd_T25 l0_1 (ji11)).f1, (rd_T25 l0_1 (ji11)).f2, (rd_T25 l0_1 (ji11)).f3⟩ : S25)] : List (S25)) : List (S25))).bind fun y760 => (if y756.length + y760.length < 2932031007402 then ((spec_unDesk.f l0_0 l0_1 l0_2 y749 (y756 ++ y760)).bind fun bt766 => (some (bt766.1, bt766.2.1, bt766.2.2, true))) else (none))) else (none)) = some (r1, r2, r3, r4) := by first | (rw [hy756]; with_reducible exact H) | (have H2_ := (Option.bind_some _ _).symm.trans H; rw [hy756]; with_reducible exact H2_) | (have H2_ := (Option.bind_some _ _).symm.trans H; with_reducible exact H2_) | with_reducible exact H | (rw [hy756]; exact H) | exact H
      have Ny756 := Aside0.mk hy756
      clear hy756
      by_cases c15 : (ji11) < (l0_1.length : Int)
      ·rw [if_pos c15] at H
       have c15b0 : decide ((ji11) < (l0_1.length : Int)) = true := decide_eq_true c15
       clear c15
       obtain ⟨y760, hy760⟩ : ∃ y_ : List (S25), y_ = (([(⟨(rd_T25 l0_1 (ji11)).f0, (rd_T25 l0_1 (ji11)).f1, (rd_T25 l0_1 (ji11)).f2, (rd_T25 l0_1 (ji11)).f3⟩ : S25)] : List (S25))) := ⟨_, rfl⟩
       replace H : (if y756.length + y760.length < 2932031007402 then ((spec_unDesk.f l0_0 l0_1 l0_2 y749 (y756 ++ y760)).bind fun bt766 => (some (bt766.1, bt766.2.1, bt766.2.2, true))) else (none)) = some (r1, r2, r3, r4) := by first | (rw [hy760]; with_reducible exact H) | (have H2_ := (Option.bind_some _ _).symm.trans H; rw [hy760]; with_reducible exact H2_) | (have H2_ := (Option.bind_some _ _).symm.trans H; with_reducible exact H2_) | with_reducible exact H | (rw [hy760]; exact H) | exact H
       have Ny760 := Aside0.mk hy760
       clear hy760
       by_cases c16 : y756.length + y760.length < 2932031007402
       ·rw [if_pos c16] at H
        have LMc16 := Aside0.mk c16
        clear c16
        obtain ⟨y763, hy763⟩ : ∃ y_ : List (S25), y_ = (y756 ++ y760) := ⟨_, rfl⟩
        replace H : ((spec_unDesk.f l0_0 l0_1 l0_2 y749 y763).bind fun bt766 => (some (bt766.1, bt766.2.1, bt766.2.2, true))) = some (r1, r2, r3, r4) := by first | (rw [hy763]; with_reducible exact H) | (have H2_ := (Option.bind_some _ _).symm.trans H; rw [hy763]; with_reducible exact H2_) | (have H2_ := (Option.bind_some _ _).symm.trans H; with_reducible exact H2_) | with_reducible exact H | (rw [hy763]; exact H) | exact H
        have Ny763 := Aside0.mk hy763
        clear hy763
        replace H := Option.bind_eq_some_iff.mp H
        obtain ⟨⟨t766, t769, t772⟩, A170, H⟩ := H
        try dsimp only at H
        have A17 := Aside0.mk A170
        clear A170
        simp only [Option.some.injEq, Prod.mk.injEq] at H
        obtain ⟨rfl, rfl, rfl, rfl⟩ := H
        go_enter Try.func39, Try.ntmps39
        try go_wp2_with (first | ((with_reducible refine gate_dst (N := 1) rfl ?_); refine box_event ?hg (N := 1) ?hd (cs := #[.slice A0_0 l0_0.length c0_0, .slice A0_1 l0_1.length c0_1, .slice A0_2 l0_2.length c0_2]) (t := 35) ?hr ?_; (case hd => rfl); (case hg => rfl); (case hr => first | (go_simp; done) | (go_simp; rfl)); intro gb746 hg w18 hbox hb; have n0_ := Aside0.mk (bt_ HB hb); have n1_ := Aside0.mk (hbox); have n2_ := Aside0.mk ((by rw [hg]; exact (bz_ HB) : w.heap.size ≤ gb746)); have n3_ := Aside0.mk ((by rw [hg]; exact (bz_ HB) : w.heap.size ≤ gb746)); clear HB; have HB := n0_; have BK746 := n1_; have GW746 := n2_; have GE746 := n3_; clear n0_ n1_ n2_ n3_; clear hb hbox hg) | ((with_reducible refine gate_dst (N := 2) rfl ?_); refine box_event ?hg (N := 2) ?hd (cs := #[.slice none 0 0, .slice none 0 0, .slice none 0 0]) (t := 35) ?hr ?_; (case hd => rfl); (case hg => rfl); (case hr => first | (go_simp; done) | (go_simp; rfl)); intro gb747 hg w19 hbox hb; have n0_ := Aside0.mk (lb_ BK746 hb); have n1_ := Aside0.mk (below_step (bb1_ HB GE746) hb); have n2_ := Aside0.mk (hbox); have n3_ := Aside0.mk ((by rw [hg]; exact (below_size (bb1_ HB GE746)) : w.heap.size ≤ gb747)); have n4_ := Aside0.mk ((by rw [hg]; exact (below_size (bb1_ HB GE746)) : w.heap.size ≤ gb747)); have n5_ := Aside0.mk ((by rw [hg]; exact Nat.ne_of_lt (blk_lt (g := gb746) (o := .cells #[.slice A0_0 l0_0.length c0_0, .slice A0_1 l0_1.length c0_1, .slice A0_2 l0_2.length c0_2] 35 (0, 0)) (la_ BK746)) : gb746 ≠ gb747)); have n6_ := Aside0.mk ((by rw [hg]; exact Nat.ne_of_gt (blk_lt (g := gb746) (o := .cells #[.slice A0_0 l0_0.length c0_0, .slice A0_1 l0_1.length c0_1, .slice A0_2 l0_2.length c0_2] 35 (0, 0)) (la_ BK746)) : gb747 ≠ gb746)); clear BK746; clear HB; have BK746 := n0_; have HB := n1_; have BK747 := n2_; have GW747 := n3_; have GE747 := n4_; have NB746_747 := n5_; have NB747_746 := n6_; clear n0_ n1_ n2_ n3_ n4_ n5_ n6_; clear hb hbox hg; have hnb20 := NB746_747.out; have hnc20 := NB747_746.out; have hcz21_0 : w19.cell? ⟨gb746, 0, none⟩ = some (.slice A0_0 l0_0.length c0_0) := (blk_cell BK746.out 0).trans rfl; have hcz21_1 : w19.cell? ⟨gb746, 1, none⟩ = some (.slice A0_1 l0_1.length c0_1) := (blk_cell BK746.out 1).trans rfl; have hcz21_2 : w19.cell? ⟨gb746, 2, none⟩ = some (.slice A0_2 l0_2.length c0_2) := (blk_cell BK746.out 2).trans rfl; have hfz21_0 := blk_frozen BK746.out 0; have hfz21_1 := blk_frozen BK746.out 1; have hfz21_2 := blk_frozen BK746.out 2) | ((with_reducible refine gate_callee (f := 59) rfl ?_); refine goesL_ (some 9) rfl rfl Try.func59 (by kernel_rfl) rfl #[.agg #[.slice A0_0 l0_0.length c0_0, .slice A0_1 l0_1.length c0_1, .slice A0_2 l0_2.length c0_2]] rfl args_ ?_; (with_reducible refine (spec_unGood.calls k _ _ l0_0 _ _ l0_1 _ _ l0_2 true _ ?side1 ?side2 ?side3 ?side4 ?side5 ?side6 A2.out).mono ?_); (case side1 => repeat (first | exact (Kd.C_below HR0_0.out HB.out) | (with_reducible first | apply cA_ | apply cN_ | apply cD_))); (case side2 => exact HC0_0.out); (case side3 => repeat (first | exact (Kd.C_below HR0_1.out HB.out) | (with_reducible first | apply cA_ | apply cN_ | apply cD_))); (case side4 => exact HC0_1.out); (case side5 => repeat (first | exact (Kd.C_below HR0_2.out HB.out) | (with_reducible first | apply cA_ | apply cN_ | apply cD_))); (case side6 => exact HC0_2.out); rintro e w22 ⟨rfl, hb⟩; refine ⟨_, rfl, ?_⟩; have n0_ := Aside0.mk (lb_ BK746 hb); have n1_ := Aside0.mk (lb_ BK747 hb); have n2_ := Aside0.mk (below_step (bb2_ HB GE746 GE747) hb); clear BK746; clear BK747; clear HB; have BK746 := n0_; have BK747 := n1_; have HB := n2_; clear n0_ n1_ n2_; (try clear hb); (try clear hb2); (try clear hk); (try clear hi)))
        have n0_ := Aside0.mk (blk_drew BK746.out)
        have n1_ := Aside0.mk (blk_drew BK747.out)
        have n2_ := Aside0.mk (below_drew1 HB.out)
        clear BK746
        clear BK747
        clear HB
        have BK746 := n0_
        have BK747 := n1_
        have HB := n2_
        clear n0_ n1_ n2_
        have q24 : ((ji11) : Int) ≤ ((l0_1.length : Int) : Int) := of_decide_eq_true (by first | (with_reducible assumption) | assumption)
        obtain ⟨i024, hi024, _, hsz24, _⟩ := info_parts info25
        have hroom24 : l0_1.length ≤ c0_1 := HC0_1.out
        have hC24 : Kd.C k25 _ A0_1 l0_1.length l0_1 := HR0_1.out
        have hcut24 := cut_to (P := Try.prog) 33 25 .i64 Try.underlying33 hi024 A0_1 l0_1.length c0_1 (ji11) (of_decide_eq_true (by first | (with_reducible assumption) | assumption)) q24 hroom24
        have hr24 := Kd.C_take (m := ((ji11) : Int).toNat) hC24 (by omega)
        have hy24 : y749.length = ((ji11) : Int).toNat := (by rw [Ny749.out, List.length_take]; omega)
        rw [← Ny749.out] at hr24
        rw [← hy24] at hcut24
        have HR752 := Aside0.mk hr24
        have HC752 := Aside0.mk (show y749.length ≤ c0_1 from by omega)
        clear hr24 hC24 hroom24 hi024 hsz24
        have KY24 := Aside0.mk hy24
        clear hy24
        replace q24 := eq_true q24
        have p759 : 0 ≤ ((ji11) : Int) := of_decide_eq_true (by first | (with_reducible assumption) | assumption)
        have q759 : (ji11) < (l0_1.length : Int) := of_decide_eq_true (by first | (with_reducible assumption) | assumption)
        obtain ⟨ad759, e759, hx759_0, hx759_1, hx759_2, hx759_3⟩ := at_T25 HR0_1.out (ji11) p759 q759
        have hw759_3 := hx759_3
        have hw759_2 := hx759_2
        have hw759_1 := hx759_1
        have hw759_0 := hx759_0
        cases e759
        replace hx759_0 := (HB.out.cell (World.block_lt_of_cell? w _ hx759_0)).trans hx759_0
        replace hx759_1 := (HB.out.cell (World.block_lt_of_cell? w _ hx759_1)).trans hx759_1
        replace hx759_2 := (HB.out.cell (World.block_lt_of_cell? w _ hx759_2)).trans hx759_2
        replace hx759_3 := (HB.out.cell (World.block_lt_of_cell? w _ hx759_3)).trans hx759_3
        replace p759 := eq_true p759
        replace q759 := eq_true q759
        refine start_ (n := 21) (S := fun w' => w'.cell? ⟨gb746, 0, none⟩ = some (.slice A0_0 l0_0.length c0_0) ∧ w'.cell? ⟨gb746, 1, none⟩ = some (.slice (some ad759) l0_1.length c0_1) ∧ w'.cell? ⟨gb746, 2, none⟩ = some (.slice A0_2 l0_2.length c0_2) ∧ w'.cell? (ad759.add (((ji11)).toNat * 4)) = some (.int .i64 ((rd_T25 l0_1 (ji11)).f0)) ∧ w'.cell? ⟨(ad759.add (((ji11)).toNat * 4)).block, (ad759.add (((ji11)).toNat * 4)).off + 1, none⟩ = some (.int .i64 ((rd_T25 l0_1 (ji11)).f1)) ∧ w'.cell? ⟨(ad759.add (((ji11)).toNat * 4)).block, (ad759.add (((ji11)).toNat * 4)).off + 2, none⟩ = some (.string ((rd_T25 l0_1 (ji11)).f2)) ∧ w'.cell? ⟨(ad759.add (((ji11)).toNat * 4)).block, (ad759.add (((ji11)).toNat * 4)).off + 3, none⟩ = some (.string ((rd_T25 l0_1 (ji11)).f3))) (ds := []) #[false, false, false, false, false, false, false, false, false, false, false, false, false, false, false, false, false, false, false, false, false] (by kernel_rfl) rfl rfl ⟨(blk_cell BK746.out 0).trans rfl, (blk_cell BK746.out 1).trans rfl, (blk_cell BK746.out 2).trans rfl, ((HB.out.cell (World.block_lt_of_cell? w _ hw759_0)).trans hw759_0), ((HB.out.cell (World.block_lt_of_cell? w _ hw759_1)).trans hw759_1), ((HB.out.cell (World.block_lt_of_cell? w _ hw759_2)).trans hw759_2), ((HB.out.cell (World.block_lt_of_cell? w _ hw759_3)).trans hw759_3)⟩ (fun hHeld => ?_); refine with_tabW spec_UndoEdit.tab4 spec_UndoEdit.bits4 (fun HT_ HW_ => ?_)
        generalize w22.drew = w23 at BK746 BK747 HB HR752 hx759_0 hx759_1 hx759_2 hx759_3 hHeld ⊢
        refine pure_ (i := 1) (N := some 17) (v := ?_) (a' := ?_) #[false, true, false, false, false, false, false, false, false, false, false, false, false, false, false, false, false, false, false, false, false] rfl rfl (any_of HT_.out (by kernel_rfl)) (fun _ _ _ h => h) (Or.inl ⟨by rfl, ?_⟩) ?_ ?_
        rotate_left
        ·intro w'
         go_simp
         with_reducible rfl
        rotate_left
        ·simp only [Act.put, List.setIfInBounds_toArray, List.set_cons_zero, List.set_cons_succ, i64_w, i32_w]
         rfl
        refine pure_ (i := 3) (N := some 19) (v := ?_) (a' := ?_) #[false, true, false, true, false, false, false, false, false, false, false, false, false, false, false, false, false, false, false, false, false] rfl rfl (any_of HT_.out (by kernel_rfl)) (fun _ _ _ h => h) (Or.inl ⟨by rfl, ?_⟩) ?_ ?_
        rotate_left
        ·intro w'
         go_simp
         with_reducible rfl
        rotate_left
        ·simp only [Act.put, List.setIfInBounds_toArray, List.set_cons_zero, List.set_cons_succ, i64_w, i32_w]
         rfl
        refine pure_ (i := 4) (N := some 20) (v := ?_) (a' := ?_) #[false, true, false, true, true, false, false, false, false, false, false, false, false, false, false, false, false, false, false, false, false] rfl rfl (any_of HT_.out (by kernel_rfl)) (fun _ _ _ h => h) (Or.inl ⟨by rfl, ?_⟩) ?_ ?_
        rotate_left
        ·intro w'
         go_simp
         with_reducible rfl
        rotate_left
        ·simp only [Act.put, List.setIfInBounds_toArray, List.set_cons_zero, List.set_cons_succ, i64_w, i32_w]
         rfl
        refine pure_ (i := 7) (N := some 23) (v := ?_) (a' := ?_) #[false, true, false, true, true, false, false, true, false, false, false, false, false, false, false, false, false, false, false, false, false] rfl rfl (any_of HT_.out (by kernel_rfl)) (fun _ _ _ h => h) (Or.inl ⟨by rfl, ?_⟩) ?_ ?_
        rotate_left
        ·intro w'
         go_simp
         with_reducible rfl
        rotate_left
        ·simp only [Act.put, List.setIfInBounds_toArray, List.set_cons_zero, List.set_cons_succ, i64_w, i32_w]
         rfl
        refine pure_ (i := 10) (N := some 26) (v := ?_) (a' := ?_) #[false, true, false, true, true, false, false, true, false, false, true, false, false, false, false, false, false, false, false, false, false] rfl rfl (any_of HT_.out (by kernel_rfl)) (fun _ _ _ h => h) (Or.inl ⟨by rfl, ?_⟩) ?_ ?_
        rotate_left
        ·intro w'
         go_simp
         with_reducible rfl
        rotate_left
        ·simp only [Act.put, List.setIfInBounds_toArray, List.set_cons_zero, List.set_cons_succ, i64_w, i32_w]
         rfl
        refine pure_ (i := 12) (N := some 28) (v := ?_) (a' := ?_) #[false, true, false, true, true, false, false, true, false, false, true, false, true, false, false, false, false, false, false, false, false] rfl rfl (any_of HT_.out (by kernel_rfl)) (fun _ _ _ h => h) (Or.inl ⟨by rfl, ?_⟩) ?_ ?_
        rotate_left
        ·intro w'
         go_simp
         with_reducible rfl
        rotate_left
        ·simp only [Act.put, List.setIfInBounds_toArray, List.set_cons_zero, List.set_cons_succ, i64_w, i32_w]
         rfl
        refine pure_ (i := 13) (N := some 29) (v := ?_) (a' := ?_) #[false, true, false, true, true, false, false, true, false, false, true, false, true, true, false, false, false, false, false, false, false] rfl rfl (any_of HT_.out (by kernel_rfl)) (fun _ _ _ h => h) (Or.inl ⟨by rfl, ?_⟩) ?_ ?_
        rotate_left
        ·intro w'
         go_simp
         with_reducible rfl
        rotate_left
        ·simp only [Act.put, List.setIfInBounds_toArray, List.set_cons_zero, List.set_cons_succ, i64_w, i32_w]
         rfl
        refine take_ (i := 0) (N := some 16) (v := ?_) (a' := ?_) #[true, true, false, true, true, false, false, true, false, false, true, false, true, true, false, false, false, false, false, false, false] rfl rfl (take_ofW HT_.out HW_.out (by kernel_rfl)) (fun _ _ _ h => h) (Or.inl ⟨by rfl, ?_⟩) hHeld ?_ ?_
        rotate_left
        ·rintro w' ⟨s0, s1, s2, s3, s4, s5, s6⟩
         go_simp
         with_reducible rfl
        rotate_left
        ·simp only [Act.put, List.setIfInBounds_toArray, List.set_cons_zero, List.set_cons_succ, i64_w, i32_w]
         rfl
        refine take_ (i := 2) (N := some 18) (v := ?_) (a' := ?_) #[true, true, true, true, true, false, false, true, false, false, true, false, true, true, false, false, false, false, false, false, false] rfl rfl (take_ofW HT_.out HW_.out (by kernel_rfl)) (fun _ _ _ h => h) (Or.inl ⟨by rfl, ?_⟩) hHeld ?_ ?_
        rotate_left
        ·rintro w' ⟨s0, s1, s2, s3, s4, s5, s6⟩
         go_simp
         with_reducible rfl
        rotate_left
        ·simp only [Act.put, List.setIfInBounds_toArray, List.set_cons_zero, List.set_cons_succ, i64_w, i32_w]
         rfl
        refine pure_ (i := 5) (N := some 21) (v := ?_) (a' := ?_) #[true, true, true, true, true, true, false, true, false, false, true, false, true, true, false, false, false, false, false, false, false] rfl rfl (any_of HT_.out (by kernel_rfl)) (fun _ _ _ h => h) (Or.inl ⟨by rfl, ?_⟩) ?_ ?_
        rotate_left
        ·intro w'
         go_simp
         with_reducible rfl
        rotate_left
        ·simp only [Act.put, List.setIfInBounds_toArray, List.set_cons_zero, List.set_cons_succ, i64_w, i32_w]
         rfl
        refine take_ (i := 8) (N := some 24) (v := ?_) (a' := ?_) #[true, true, true, true, true, true, false, true, true, false, true, false, true, true, false, false, false, false, false, false, false] rfl rfl (take_ofW HT_.out HW_.out (by kernel_rfl)) (fun _ _ _ h => h) (Or.inl ⟨by rfl, ?_⟩) hHeld ?_ ?_
        rotate_left
        ·rintro w' ⟨s0, s1, s2, s3, s4, s5, s6⟩
         go_simp
         with_reducible rfl
        rotate_left
        ·simp only [Act.put, List.setIfInBounds_toArray, List.set_cons_zero, List.set_cons_succ, i64_w, i32_w]
         rfl
        refine take_ (i := 11) (N := some 27) (v := ?_) (a' := ?_) #[true, true, true, true, true, true, false, true, true, false, true, true, true, true, false, false, false, false, false, false, false] rfl rfl (take_ofW HT_.out HW_.out (by kernel_rfl)) (fun _ _ _ h => h) (Or.inl ⟨by rfl, ?_⟩) hHeld ?_ ?_
        rotate_left
        ·rintro w' ⟨s0, s1, s2, s3, s4, s5, s6⟩
         go_simp
         with_reducible rfl
        rotate_left
        ·simp only [Act.put, List.setIfInBounds_toArray, List.set_cons_zero, List.set_cons_succ, i64_w, i32_w]
         rfl
        refine pure_ (i := 14) (N := some 30) (v := ?_) (a' := ?_) #[true, true, true, true, true, true, false, true, true, false, true, true, true, true, true, false, false, false, false, false, false] rfl rfl (any_of HT_.out (by kernel_rfl)) (fun _ _ _ h => h) (Or.inl ⟨by rfl, ?_⟩) ?_ ?_
        rotate_left
        ·intro w'
         go_simp
         with_reducible rfl
        rotate_left
        ·simp only [Act.put, List.setIfInBounds_toArray, List.set_cons_zero, List.set_cons_succ, i64_w, i32_w]
         rfl
        refine take_ (i := 15) (N := some 31) (v := ?_) (a' := ?_) #[true, true, true, true, true, true, false, true, true, false, true, true, true, true, true, true, false, false, false, false, false] rfl rfl (take_ofW HT_.out HW_.out (by kernel_rfl)) (fun _ _ _ h => h) (Or.inl ⟨by rfl, ?_⟩) hHeld ?_ ?_
        rotate_left
        ·rintro w' ⟨s0, s1, s2, s3, s4, s5, s6⟩
         go_simp
         with_reducible rfl
        rotate_left
        ·simp only [Act.put, List.setIfInBounds_toArray, List.set_cons_zero, List.set_cons_succ, i64_w, i32_w]
         rfl
        refine join_ (σ := Value × Value × Value) 4 #[true, true, true, true, true, true, true, true, true, true, true, true, true, true, true, true, true, false, false, false, false] (fun s_ => [(22, s_.1), (25, s_.2.1), (32, s_.2.2)]) (fun s_ w' => (w'.cell? ⟨gb746, 0, none⟩ = some (.slice A0_0 l0_0.length c0_0) ∧ w'.cell? ⟨gb746, 1, none⟩ = some (.slice (some ad759) l0_1.length c0_1) ∧ w'.cell? ⟨gb746, 2, none⟩ = some (.slice A0_2 l0_2.length c0_2) ∧ w'.cell? (ad759.add (((ji11)).toNat * 4)) = some (.int .i64 ((rd_T25 l0_1 (ji11)).f0)) ∧ w'.cell? ⟨(ad759.add (((ji11)).toNat * 4)).block, (ad759.add (((ji11)).toNat * 4)).off + 1, none⟩ = some (.int .i64 ((rd_T25 l0_1 (ji11)).f1)) ∧ w'.cell? ⟨(ad759.add (((ji11)).toNat * 4)).block, (ad759.add (((ji11)).toNat * 4)).off + 2, none⟩ = some (.string ((rd_T25 l0_1 (ji11)).f2)) ∧ w'.cell? ⟨(ad759.add (((ji11)).toNat * 4)).block, (ad759.add (((ji11)).toNat * 4)).off + 3, none⟩ = some (.string ((rd_T25 l0_1 (ji11)).f3))) ∧ (Kd.R k25 25 w' w.heap.size (fun k_ => some k_ ≠ (s_.2.2 : Value).ownBlock) s_.2.1 y756) ∧ (Kd.R k25 25 w' w.heap.size (fun k_ => some k_ ≠ (s_.2.1 : Value).ownBlock) s_.2.2 y760) ∧ (w'.heap[gb746]? = some (.cells #[.slice A0_0 l0_0.length c0_0, .slice (some ad759) l0_1.length c0_1, .slice A0_2 l0_2.length c0_2] 35 (0, 0))) ∧ (w'.heap[gb747]? = some (.cells #[.slice none 0 0, .slice none 0 0, .slice none 0 0] 35 (0, 0))) ∧ (Below w.heap.size w w')) ?_ ?_
        rotate_left
        ·intro hCont
         refine two_ (i := 6) (j := 16) (Ni := some 22) (Nj := some 32) #[true, true, true, true, true, true, true, true, true, false, true, true, true, true, true, true, false, false, false, false, false] #[true, true, true, true, true, true, false, true, true, false, true, true, true, true, true, true, true, false, false, false, false] rfl rfl rfl rfl (two_of HT_.out (by kernel_rfl)) (by decide) (by decide) (fun K hK => ?_) (fun K hK => ?_)
         ·skip
          refine Kd.R_lit_step k25 _ 25 ?hg (N := 22) ?hd (xs := ([] : List (S25))) (inner := []) (ok := fun _ => True) (okp := fun _ => True) ?hr ?hp (fun _ hk => hk) trivial (Below.refl _ _) (Nat.le_refl _) (by simp) ?_; (case hd => rfl); (case hg => rfl); (case hr => first | (go_simp; done) | (go_simp; rfl)); (case hp => exact (Reps.none _ _))
          intro v754 w25 ho26 hb hg_ hnew_
          clear hg_ hnew_
          (first | rw [← Ny753.out] at ho26 | (simp only [Int.reduceToNat] at ho26; rw [← Ny753.out] at ho26))
          have n0_ := Aside0.mk (Kd.R_lower ho26 (below_size (bb2_ HB GE746 GE747)))
          have n1_ := Aside0.mk (lb_ BK746 hb)
          have n2_ := Aside0.mk (lb_ BK747 hb)
          have n3_ := Aside0.mk (below_step (bb2_ HB GE746 GE747) hb)
          clear BK746
          clear BK747
          clear HB
          have HO755 := n0_
          have BK746 := n1_
          have BK747 := n2_
          have HB := n3_
          clear n0_ n1_ n2_ n3_
          clear hb ho26
          refine hK.out _ _ ⟨(blk_cell BK746.out 0).trans rfl, (blk_cell BK746.out 1).trans rfl, (blk_cell BK746.out 2).trans rfl, ((HB.out.cell (World.block_lt_of_cell? w _ hw759_0)).trans hw759_0), ((HB.out.cell (World.block_lt_of_cell? w _ hw759_1)).trans hw759_1), ((HB.out.cell (World.block_lt_of_cell? w _ hw759_2)).trans hw759_2), ((HB.out.cell (World.block_lt_of_cell? w _ hw759_3)).trans hw759_3)⟩ (fun hHeld => ?_)
          clear hK K
          refine norm_ (a' := ?_) ?_ ?_
          rotate_left
          ·show Act.put _ (some 22) _ = _
           simp only [Act.put, List.setIfInBounds_toArray, List.set_cons_zero, List.set_cons_succ, i64_w, i32_w]
           rfl
          refine two_ (i := 9) (j := 16) (Ni := some 25) (Nj := some 32) #[true, true, true, true, true, true, true, true, true, true, true, true, true, true, true, true, false, false, false, false, false] #[true, true, true, true, true, true, true, true, true, false, true, true, true, true, true, true, true, false, false, false, false] rfl rfl rfl rfl (two_of HT_.out (by kernel_rfl)) (by decide) (by decide) (fun K hK => ?_) (fun K hK => ?_)
          ·skip
           refine Kd.R_append_rows_step k25 (w0 := w) w.heap.size (by rfl) (.tmp 22) (.tmp 24) 33 25 (.agg #[(.int .i64 0), (.int .i64 0), (.string ⟨#[]⟩), (.string ⟨#[]⟩)]) 48 rfl Try.underlying33 info25 rfl (by decide) (by omega) v754 y753 l0_2 _ _ _ (fun _ => True) (fun _ => False) rfl rfl ?aO ?aR (fun _ _ h => h) (fun _ h => h.elim) ?aF ?aB ?aS ?aL ?_
           (case aR => repeat (first | exact (Kd.C_below HR0_2.out HB.out) | (with_reducible first | apply cA_ | apply cN_ | apply cD_)))
           (case aB => exact (bb2_ HB GE746 GE747))
           (case aF => exact (fun _ _ => trivial))
           (case aO => exact (ra_ HO755))
           (case aS => exact (below_size (bb2_ HB GE746 GE747)))
           (case aL => have := LMc14.out; omega)
           intro v757 w27 ho hb hg hat
           rw [← Ny756.out] at ho
           have n0_ := Aside0.mk (blk_grown (g := gb746) (o := .cells #[.slice A0_0 l0_0.length c0_0, .slice (some ad759) l0_1.length c0_1, .slice A0_2 l0_2.length c0_2] 35 (0, 0)) (la_ BK746) hg (Kd.R_ne HO755.out BK746.out (by decide)))
           have n1_ := Aside0.mk (blk_grown (g := gb747) (o := .cells #[.slice none 0 0, .slice none 0 0, .slice none 0 0] 35 (0, 0)) (la_ BK747) hg (Kd.R_ne HO755.out BK747.out (by decide)))
           have n2_ := Aside0.mk (hb)
           have n3_ := Aside0.mk (ho)
           clear BK746
           clear BK747
           clear HB
           clear HO755
           have BK746 := n0_
           have BK747 := n1_
           have HB := n2_
           have HO758 := n3_
           clear n0_ n1_ n2_ n3_
           clear ho hb hg hat
           refine hK.out _ _ ⟨(blk_cell BK746.out 0).trans rfl, (blk_cell BK746.out 1).trans rfl, (blk_cell BK746.out 2).trans rfl, ((HB.out.cell (World.block_lt_of_cell? w _ hw759_0)).trans hw759_0), ((HB.out.cell (World.block_lt_of_cell? w _ hw759_1)).trans hw759_1), ((HB.out.cell (World.block_lt_of_cell? w _ hw759_2)).trans hw759_2), ((HB.out.cell (World.block_lt_of_cell? w _ hw759_3)).trans hw759_3)⟩ (fun hHeld => ?_)
           clear hK K
           refine norm_ (a' := ?_) ?_ ?_
           rotate_left
           ·show Act.put _ (some 25) _ = _
            simp only [Act.put, List.setIfInBounds_toArray, List.set_cons_zero, List.set_cons_succ, i64_w, i32_w]
            rfl
           refine one_ (i := 16) (N := some 32) #[true, true, true, true, true, true, true, true, true, true, true, true, true, true, true, true, true, false, false, false, false] rfl rfl (one_of HT_.out (by kernel_rfl)) (by decide) (fun K hK => ?_)
           refine Kd.R_lit_step k25 _ 25 ?hg (N := 32) ?hd (xs := ([(⟨(rd_T25 l0_1 (ji11)).f0, (rd_T25 l0_1 (ji11)).f1, (rd_T25 l0_1 (ji11)).f2, (rd_T25 l0_1 (ji11)).f3⟩ : S25)] : List (S25))) (inner := [.int .i64 ((rd_T25 l0_1 (ji11)).f0), .int .i64 ((rd_T25 l0_1 (ji11)).f1), .string ((rd_T25 l0_1 (ji11)).f2), .string ((rd_T25 l0_1 (ji11)).f3)]) (ok := fun _ => True) (okp := fun _ => True) ?hr ?hp (fun _ hk => hk) trivial (Below.refl _ _) (Nat.le_refl _) (by simp) ?_; (case hd => rfl); (case hg => rfl); (case hr => first | (go_simp; done) | (go_simp; rfl)); (case hp => exact (Reps.c4 (show Kd.M k25 _ _ _ (⟨(rd_T25 l0_1 (ji11)).f0, (rd_T25 l0_1 (ji11)).f1, (rd_T25 l0_1 (ji11)).f2, (rd_T25 l0_1 (ji11)).f3⟩ : S25) [.int .i64 ((rd_T25 l0_1 (ji11)).f0), .int .i64 ((rd_T25 l0_1 (ji11)).f1), .string ((rd_T25 l0_1 (ji11)).f2), .string ((rd_T25 l0_1 (ji11)).f3)] from (k25_mkM _ _ _ (⟨(rd_T25 l0_1 (ji11)).f0, (rd_T25 l0_1 (ji11)).f1, (rd_T25 l0_1 (ji11)).f2, (rd_T25 l0_1 (ji11)).f3⟩ : S25) )) (Reps.none _ _)))
           intro v761 w28 ho29 hb hg_ hnew_
           clear hg_ hnew_
           (first | rw [← Ny760.out] at ho29 | (simp only [Int.reduceToNat] at ho29; rw [← Ny760.out] at ho29))
           have n0_ := Aside0.mk (Kd.R_elder' (ra_ HO758) (Kd.R_base ho29) hb)
           have n1_ := Aside0.mk (Kd.R_lower (Kd.R_new' ho29 (Kd.R_lt (ra_ HO758))) (below_size (bb2_ HB GE746 GE747)))
           have n2_ := Aside0.mk (lb_ BK746 hb)
           have n3_ := Aside0.mk (lb_ BK747 hb)
           have n4_ := Aside0.mk (below_step (bb2_ HB GE746 GE747) hb)
           clear HO758
           clear BK746
           clear BK747
           clear HB
           have HO758 := n0_
           have HO762 := n1_
           have BK746 := n2_
           have BK747 := n3_
           have HB := n4_
           clear n0_ n1_ n2_ n3_ n4_
           clear hb ho29
           refine hK.out _ _ ⟨(blk_cell BK746.out 0).trans rfl, (blk_cell BK746.out 1).trans rfl, (blk_cell BK746.out 2).trans rfl, ((HB.out.cell (World.block_lt_of_cell? w _ hw759_0)).trans hw759_0), ((HB.out.cell (World.block_lt_of_cell? w _ hw759_1)).trans hw759_1), ((HB.out.cell (World.block_lt_of_cell? w _ hw759_2)).trans hw759_2), ((HB.out.cell (World.block_lt_of_cell? w _ hw759_3)).trans hw759_3)⟩ (fun hHeld => ?_)
           clear hK K
           refine norm_ (a' := ?_) ?_ ?_
           rotate_left
           ·show Act.put _ (some 32) _ = _
            simp only [Act.put, List.setIfInBounds_toArray, List.set_cons_zero, List.set_cons_succ, i64_w, i32_w]
            rfl
           exact norm_ (by simp only [putAll, Act.put, List.setIfInBounds_toArray, List.set_cons_zero, List.set_cons_succ]) (hCont (v754, v757, v761) _ ⟨hHeld, (by (with_reducible repeat (first | apply rA_ | apply rN_ | apply rD_)); exact Kd.R_mono HO758.out (fun _ hk => hk.2)), (by (with_reducible repeat (first | apply rA_ | apply rN_ | apply rD_)); exact Kd.R_mono HO762.out (fun _ hk => hk.2)), (la_ BK746), (la_ BK747), (bb2_ HB GE746 GE747)⟩)
          ·skip
           refine Kd.R_lit_step k25 _ 25 ?hg (N := 32) ?hd (xs := ([(⟨(rd_T25 l0_1 (ji11)).f0, (rd_T25 l0_1 (ji11)).f1, (rd_T25 l0_1 (ji11)).f2, (rd_T25 l0_1 (ji11)).f3⟩ : S25)] : List (S25))) (inner := [.int .i64 ((rd_T25 l0_1 (ji11)).f0), .int .i64 ((rd_T25 l0_1 (ji11)).f1), .string ((rd_T25 l0_1 (ji11)).f2), .string ((rd_T25 l0_1 (ji11)).f3)]) (ok := fun _ => True) (okp := fun _ => True) ?hr ?hp (fun _ hk => hk) trivial (Below.refl _ _) (Nat.le_refl _) (by simp) ?_; (case hd => rfl); (case hg => rfl); (case hr => first | (go_simp; done) | (go_simp; rfl)); (case hp => exact (Reps.c4 (show Kd.M k25 _ _ _ (⟨(rd_T25 l0_1 (ji11)).f0, (rd_T25 l0_1 (ji11)).f1, (rd_T25 l0_1 (ji11)).f2, (rd_T25 l0_1 (ji11)).f3⟩ : S25) [.int .i64 ((rd_T25 l0_1 (ji11)).f0), .int .i64 ((rd_T25 l0_1 (ji11)).f1), .string ((rd_T25 l0_1 (ji11)).f2), .string ((rd_T25 l0_1 (ji11)).f3)] from (k25_mkM _ _ _ (⟨(rd_T25 l0_1 (ji11)).f0, (rd_T25 l0_1 (ji11)).f1, (rd_T25 l0_1 (ji11)).f2, (rd_T25 l0_1 (ji11)).f3⟩ : S25) )) (Reps.none _ _)))
           intro v761 w27 ho28 hb hg_ hnew_
           clear hg_ hnew_
           (first | rw [← Ny760.out] at ho28 | (simp only [Int.reduceToNat] at ho28; rw [← Ny760.out] at ho28))
           have n0_ := Aside0.mk (Kd.R_elder' (ra_ HO755) (Kd.R_base ho28) hb)
           have n1_ := Aside0.mk (Kd.R_lower (Kd.R_new' ho28 (Kd.R_lt (ra_ HO755))) (below_size (bb2_ HB GE746 GE747)))
           have n2_ := Aside0.mk (lb_ BK746 hb)
           have n3_ := Aside0.mk (lb_ BK747 hb)
           have n4_ := Aside0.mk (below_step (bb2_ HB GE746 GE747) hb)
           clear HO755
           clear BK746
           clear BK747
           clear HB
           have HO755 := n0_
           have HO762 := n1_
           have BK746 := n2_
           have BK747 := n3_
           have HB := n4_
           clear n0_ n1_ n2_ n3_ n4_
           clear hb ho28
           refine hK.out _ _ ⟨(blk_cell BK746.out 0).trans rfl, (blk_cell BK746.out 1).trans rfl, (blk_cell BK746.out 2).trans rfl, ((HB.out.cell (World.block_lt_of_cell? w _ hw759_0)).trans hw759_0), ((HB.out.cell (World.block_lt_of_cell? w _ hw759_1)).trans hw759_1), ((HB.out.cell (World.block_lt_of_cell? w _ hw759_2)).trans hw759_2), ((HB.out.cell (World.block_lt_of_cell? w _ hw759_3)).trans hw759_3)⟩ (fun hHeld => ?_)
           clear hK K
           refine norm_ (a' := ?_) ?_ ?_
           rotate_left
           ·show Act.put _ (some 32) _ = _
            simp only [Act.put, List.setIfInBounds_toArray, List.set_cons_zero, List.set_cons_succ, i64_w, i32_w]
            rfl
           refine one_ (i := 9) (N := some 25) #[true, true, true, true, true, true, true, true, true, true, true, true, true, true, true, true, true, false, false, false, false] rfl rfl (one_of HT_.out (by kernel_rfl)) (by decide) (fun K hK => ?_)
           refine Kd.R_append_rows_step k25 (w0 := w) w.heap.size (by rfl) (.tmp 22) (.tmp 24) 33 25 (.agg #[(.int .i64 0), (.int .i64 0), (.string ⟨#[]⟩), (.string ⟨#[]⟩)]) 48 rfl Try.underlying33 info25 rfl (by decide) (by omega) v754 y753 l0_2 _ _ _ (fun k_ => some k_ ≠ (v761 : Value).ownBlock) (fun _ => False) rfl rfl ?aO ?aR (fun _ _ h => h) (fun _ h => h.elim) ?aF ?aB ?aS ?aL ?_
           (case aR => repeat (first | exact (Kd.C_below HR0_2.out HB.out) | (with_reducible first | apply cA_ | apply cN_ | apply cD_)))
           (case aB => exact (bb2_ HB GE746 GE747))
           (case aF => exact (fun k_ hk => Kd.fresh' (Kd.R_lt (ra_ HO762)) k_ hk))
           (case aO => exact (by (with_reducible repeat (first | apply rA_ | apply rN_ | apply rD_)); exact Kd.R_mono HO755.out (fun _ hk => hk.2)))
           (case aS => exact (below_size (bb2_ HB GE746 GE747)))
           (case aL => have := LMc14.out; omega)
           intro v757 w29 ho hb hg hat
           rw [← Ny756.out] at ho
           have n0_ := Aside0.mk (blk_grown (g := gb746) (o := .cells #[.slice A0_0 l0_0.length c0_0, .slice (some ad759) l0_1.length c0_1, .slice A0_2 l0_2.length c0_2] 35 (0, 0)) (la_ BK746) hg (Kd.R_ne HO755.out BK746.out (by decide)))
           have n1_ := Aside0.mk (blk_grown (g := gb747) (o := .cells #[.slice none 0 0, .slice none 0 0, .slice none 0 0] 35 (0, 0)) (la_ BK747) hg (Kd.R_ne HO755.out BK747.out (by decide)))
           have n2_ := Aside0.mk (Kd.R_after (ok := (fun _ => True)) (ra_ HO762) hg hat)
           have n3_ := Aside0.mk (hb)
           have n4_ := Aside0.mk (ho)
           clear BK746
           clear BK747
           clear HO762
           clear HB
           clear HO755
           have BK746 := n0_
           have BK747 := n1_
           have HO762 := n2_
           have HB := n3_
           have HO758 := n4_
           clear n0_ n1_ n2_ n3_ n4_
           clear ho hb hg hat
           refine hK.out _ _ ⟨(blk_cell BK746.out 0).trans rfl, (blk_cell BK746.out 1).trans rfl, (blk_cell BK746.out 2).trans rfl, ((HB.out.cell (World.block_lt_of_cell? w _ hw759_0)).trans hw759_0), ((HB.out.cell (World.block_lt_of_cell? w _ hw759_1)).trans hw759_1), ((HB.out.cell (World.block_lt_of_cell? w _ hw759_2)).trans hw759_2), ((HB.out.cell (World.block_lt_of_cell? w _ hw759_3)).trans hw759_3)⟩ (fun hHeld => ?_)
           clear hK K
           refine norm_ (a' := ?_) ?_ ?_
           rotate_left
           ·show Act.put _ (some 25) _ = _
            simp only [Act.put, List.setIfInBounds_toArray, List.set_cons_zero, List.set_cons_succ, i64_w, i32_w]
            rfl
           exact norm_ (by simp only [putAll, Act.put, List.setIfInBounds_toArray, List.set_cons_zero, List.set_cons_succ]) (hCont (v754, v757, v761) _ ⟨hHeld, (ra_ HO758), (by (with_reducible repeat (first | apply rA_ | apply rN_ | apply rD_)); exact Kd.R_mono HO762.out (fun _ hk => hk.2)), (la_ BK746), (la_ BK747), (bb2_ HB GE746 GE747)⟩)
         ·skip
          refine Kd.R_lit_step k25 _ 25 ?hg (N := 32) ?hd (xs := ([(⟨(rd_T25 l0_1 (ji11)).f0, (rd_T25 l0_1 (ji11)).f1, (rd_T25 l0_1 (ji11)).f2, (rd_T25 l0_1 (ji11)).f3⟩ : S25)] : List (S25))) (inner := [.int .i64 ((rd_T25 l0_1 (ji11)).f0), .int .i64 ((rd_T25 l0_1 (ji11)).f1), .string ((rd_T25 l0_1 (ji11)).f2), .string ((rd_T25 l0_1 (ji11)).f3)]) (ok := fun _ => True) (okp := fun _ => True) ?hr ?hp (fun _ hk => hk) trivial (Below.refl _ _) (Nat.le_refl _) (by simp) ?_; (case hd => rfl); (case hg => rfl); (case hr => first | (go_simp; done) | (go_simp; rfl)); (case hp => exact (Reps.c4 (show Kd.M k25 _ _ _ (⟨(rd_T25 l0_1 (ji11)).f0, (rd_T25 l0_1 (ji11)).f1, (rd_T25 l0_1 (ji11)).f2, (rd_T25 l0_1 (ji11)).f3⟩ : S25) [.int .i64 ((rd_T25 l0_1 (ji11)).f0), .int .i64 ((rd_T25 l0_1 (ji11)).f1), .string ((rd_T25 l0_1 (ji11)).f2), .string ((rd_T25 l0_1 (ji11)).f3)] from (k25_mkM _ _ _ (⟨(rd_T25 l0_1 (ji11)).f0, (rd_T25 l0_1 (ji11)).f1, (rd_T25 l0_1 (ji11)).f2, (rd_T25 l0_1 (ji11)).f3⟩ : S25) )) (Reps.none _ _)))
          intro v761 w25 ho26 hb hg_ hnew_
          clear hg_ hnew_
          (first | rw [← Ny760.out] at ho26 | (simp only [Int.reduceToNat] at ho26; rw [← Ny760.out] at ho26))
          have n0_ := Aside0.mk (Kd.R_lower ho26 (below_size (bb2_ HB GE746 GE747)))
          have n1_ := Aside0.mk (lb_ BK746 hb)
          have n2_ := Aside0.mk (lb_ BK747 hb)
          have n3_ := Aside0.mk (below_step (bb2_ HB GE746 GE747) hb)
          clear BK746
          clear BK747
          clear HB
          have HO762 := n0_
          have BK746 := n1_
          have BK747 := n2_
          have HB := n3_
          clear n0_ n1_ n2_ n3_
          clear hb ho26
          refine hK.out _ _ ⟨(blk_cell BK746.out 0).trans rfl, (blk_cell BK746.out 1).trans rfl, (blk_cell BK746.out 2).trans rfl, ((HB.out.cell (World.block_lt_of_cell? w _ hw759_0)).trans hw759_0), ((HB.out.cell (World.block_lt_of_cell? w _ hw759_1)).trans hw759_1), ((HB.out.cell (World.block_lt_of_cell? w _ hw759_2)).trans hw759_2), ((HB.out.cell (World.block_lt_of_cell? w _ hw759_3)).trans hw759_3)⟩ (fun hHeld => ?_)
          clear hK K
          refine norm_ (a' := ?_) ?_ ?_
          rotate_left
          ·show Act.put _ (some 32) _ = _
           simp only [Act.put, List.setIfInBounds_toArray, List.set_cons_zero, List.set_cons_succ, i64_w, i32_w]
           rfl
          refine one_ (i := 6) (N := some 22) #[true, true, true, true, true, true, true, true, true, false, true, true, true, true, true, true, true, false, false, false, false] rfl rfl (one_of HT_.out (by kernel_rfl)) (by decide) (fun K hK => ?_)
          refine Kd.R_lit_step k25 _ 25 ?hg (N := 22) ?hd (xs := ([] : List (S25))) (inner := []) (ok := fun _ => True) (okp := fun _ => True) ?hr ?hp (fun _ hk => hk) trivial (Below.refl _ _) (Nat.le_refl _) (by simp) ?_; (case hd => rfl); (case hg => rfl); (case hr => first | (go_simp; done) | (go_simp; rfl)); (case hp => exact (Reps.none _ _))
          intro v754 w27 ho28 hb hg_ hnew_
          clear hg_ hnew_
          (first | rw [← Ny753.out] at ho28 | (simp only [Int.reduceToNat] at ho28; rw [← Ny753.out] at ho28))
          have n0_ := Aside0.mk (Kd.R_elder' (ra_ HO762) (Kd.R_base ho28) hb)
          have n1_ := Aside0.mk (Kd.R_lower (Kd.R_new' ho28 (Kd.R_lt (ra_ HO762))) (below_size (bb2_ HB GE746 GE747)))
          have n2_ := Aside0.mk (lb_ BK746 hb)
          have n3_ := Aside0.mk (lb_ BK747 hb)
          have n4_ := Aside0.mk (below_step (bb2_ HB GE746 GE747) hb)
          clear HO762
          clear BK746
          clear BK747
          clear HB
          have HO762 := n0_
          have HO755 := n1_
          have BK746 := n2_
          have BK747 := n3_
          have HB := n4_
          clear n0_ n1_ n2_ n3_ n4_
          clear hb ho28
          refine hK.out _ _ ⟨(blk_cell BK746.out 0).trans rfl, (blk_cell BK746.out 1).trans rfl, (blk_cell BK746.out 2).trans rfl, ((HB.out.cell (World.block_lt_of_cell? w _ hw759_0)).trans hw759_0), ((HB.out.cell (World.block_lt_of_cell? w _ hw759_1)).trans hw759_1), ((HB.out.cell (World.block_lt_of_cell? w _ hw759_2)).trans hw759_2), ((HB.out.cell (World.block_lt_of_cell? w _ hw759_3)).trans hw759_3)⟩ (fun hHeld => ?_)
          clear hK K
          refine norm_ (a' := ?_) ?_ ?_
          rotate_left
          ·show Act.put _ (some 22) _ = _
           simp only [Act.put, List.setIfInBounds_toArray, List.set_cons_zero, List.set_cons_succ, i64_w, i32_w]
           rfl
          refine one_ (i := 9) (N := some 25) #[true, true, true, true, true, true, true, true, true, true, true, true, true, true, true, true, true, false, false, false, false] rfl rfl (one_of HT_.out (by kernel_rfl)) (by decide) (fun K hK => ?_)
          refine Kd.R_append_rows_step k25 (w0 := w) w.heap.size (by rfl) (.tmp 22) (.tmp 24) 33 25 (.agg #[(.int .i64 0), (.int .i64 0), (.string ⟨#[]⟩), (.string ⟨#[]⟩)]) 48 rfl Try.underlying33 info25 rfl (by decide) (by omega) v754 y753 l0_2 _ _ _ (fun k_ => some k_ ≠ (v761 : Value).ownBlock) (fun _ => False) rfl rfl ?aO ?aR (fun _ _ h => h) (fun _ h => h.elim) ?aF ?aB ?aS ?aL ?_
          (case aR => repeat (first | exact (Kd.C_below HR0_2.out HB.out) | (with_reducible first | apply cA_ | apply cN_ | apply cD_)))
          (case aB => exact (bb2_ HB GE746 GE747))
          (case aF => exact (fun k_ hk => Kd.fresh' (Kd.R_lt (ra_ HO762)) k_ hk))
          (case aO => exact (by (with_reducible repeat (first | apply rA_ | apply rN_ | apply rD_)); exact Kd.R_mono HO755.out (fun _ hk => hk.2)))
          (case aS => exact (below_size (bb2_ HB GE746 GE747)))
          (case aL => have := LMc14.out; omega)
          intro v757 w29 ho hb hg hat
          rw [← Ny756.out] at ho
          have n0_ := Aside0.mk (blk_grown (g := gb746) (o := .cells #[.slice A0_0 l0_0.length c0_0, .slice (some ad759) l0_1.length c0_1, .slice A0_2 l0_2.length c0_2] 35 (0, 0)) (la_ BK746) hg (Kd.R_ne HO755.out BK746.out (by decide)))
          have n1_ := Aside0.mk (blk_grown (g := gb747) (o := .cells #[.slice none 0 0, .slice none 0 0, .slice none 0 0] 35 (0, 0)) (la_ BK747) hg (Kd.R_ne HO755.out BK747.out (by decide)))
          have n2_ := Aside0.mk (Kd.R_after (ok := (fun _ => True)) (ra_ HO762) hg hat)
          have n3_ := Aside0.mk (hb)
          have n4_ := Aside0.mk (ho)
          clear BK746
          clear BK747
          clear HO762
          clear HB
          clear HO755
          have BK746 := n0_
          have BK747 := n1_
          have HO762 := n2_
          have HB := n3_
          have HO758 := n4_
          clear n0_ n1_ n2_ n3_ n4_
          clear ho hb hg hat
          refine hK.out _ _ ⟨(blk_cell BK746.out 0).trans rfl, (blk_cell BK746.out 1).trans rfl, (blk_cell BK746.out 2).trans rfl, ((HB.out.cell (World.block_lt_of_cell? w _ hw759_0)).trans hw759_0), ((HB.out.cell (World.block_lt_of_cell? w _ hw759_1)).trans hw759_1), ((HB.out.cell (World.block_lt_of_cell? w _ hw759_2)).trans hw759_2), ((HB.out.cell (World.block_lt_of_cell? w _ hw759_3)).trans hw759_3)⟩ (fun hHeld => ?_)
          clear hK K
          refine norm_ (a' := ?_) ?_ ?_
          rotate_left
          ·show Act.put _ (some 25) _ = _
           simp only [Act.put, List.setIfInBounds_toArray, List.set_cons_zero, List.set_cons_succ, i64_w, i32_w]
           rfl
          exact norm_ (by simp only [putAll, Act.put, List.setIfInBounds_toArray, List.set_cons_zero, List.set_cons_succ]) (hCont (v754, v757, v761) _ ⟨hHeld, (ra_ HO758), (by (with_reducible repeat (first | apply rA_ | apply rN_ | apply rD_)); exact Kd.R_mono HO762.out (fun _ hk => hk.2)), (la_ BK746), (la_ BK747), (bb2_ HB GE746 GE747)⟩)
        rintro ⟨v754, v757, v761⟩ w30 ⟨hS_, h0_, h1_, h2_, h3_, h4_⟩
        have n0_ : Aside0 (Kd.R k25 25 w30 w.heap.size (fun k_ => some k_ ≠ (v761 : Value).ownBlock) v757 y756) := ⟨h0_⟩
        have n1_ : Aside0 (Kd.R k25 25 w30 w.heap.size (fun k_ => some k_ ≠ (v757 : Value).ownBlock) v761 y760) := ⟨h1_⟩
        have n2_ : Aside0 (w30.heap[gb746]? = some (.cells #[.slice A0_0 l0_0.length c0_0, .slice (some ad759) l0_1.length c0_1, .slice A0_2 l0_2.length c0_2] 35 (0, 0))) := ⟨h2_⟩
        have n3_ : Aside0 (w30.heap[gb747]? = some (.cells #[.slice none 0 0, .slice none 0 0, .slice none 0 0] 35 (0, 0))) := ⟨h3_⟩
        have n4_ : Aside0 (Below w.heap.size w w30) := ⟨h4_⟩
        clear BK746
        clear BK747
        clear HB
        clear h0_ h1_ h2_ h3_ h4_
        have HO758 := n0_
        have HO762 := n1_
        have BK746 := n2_
        have BK747 := n3_
        have HB := n4_
        clear n0_ n1_ n2_ n3_ n4_
        have hHeld : w30.cell? ⟨gb746, 0, none⟩ = some (.slice A0_0 l0_0.length c0_0) ∧ w30.cell? ⟨gb746, 1, none⟩ = some (.slice (some ad759) l0_1.length c0_1) ∧ w30.cell? ⟨gb746, 2, none⟩ = some (.slice A0_2 l0_2.length c0_2) ∧ w30.cell? (ad759.add (((ji11)).toNat * 4)) = some (.int .i64 ((rd_T25 l0_1 (ji11)).f0)) ∧ w30.cell? ⟨(ad759.add (((ji11)).toNat * 4)).block, (ad759.add (((ji11)).toNat * 4)).off + 1, none⟩ = some (.int .i64 ((rd_T25 l0_1 (ji11)).f1)) ∧ w30.cell? ⟨(ad759.add (((ji11)).toNat * 4)).block, (ad759.add (((ji11)).toNat * 4)).off + 2, none⟩ = some (.string ((rd_T25 l0_1 (ji11)).f2)) ∧ w30.cell? ⟨(ad759.add (((ji11)).toNat * 4)).block, (ad759.add (((ji11)).toNat * 4)).off + 3, none⟩ = some (.string ((rd_T25 l0_1 (ji11)).f3)) := hS_
        obtain ⟨Ao32, co32, eo32⟩ := Kd.R_slice HO762.out
        (first | subst eo32 | (injection eo32 with f1_ f2_ f3_; have f4_ := f1_.symm; have f5_ := f3_.symm; clear f1_ f2_ f3_; subst f4_; subst f5_))
        refine norm_ (a' := ?_) ?_ ?_
        rotate_left
        ·simp only [putAll, Act.put, List.setIfInBounds_toArray, List.set_cons_zero, List.set_cons_succ]
         rfl
        refine one_ (i := 17) (N := some 33) #[true, true, true, true, true, true, true, true, true, true, true, true, true, true, true, true, true, true, false, false, false] rfl rfl (one_of HT_.out (by kernel_rfl)) (by decide) (fun K hK => ?_)
        refine Kd.R_append_rows_step k25 (w0 := w) w.heap.size (by rfl) (.tmp 25) (.tmp 32) 33 25 (.agg #[(.int .i64 0), (.int .i64 0), (.string ⟨#[]⟩), (.string ⟨#[]⟩)]) 48 rfl Try.underlying33 info25 rfl (by decide) (by omega) v757 y756 y760 _ _ _ (fun k_ => some k_ ≠ (.slice Ao32 y760.length co32 : Value).ownBlock) (fun _ => False) rfl rfl ?aO ?aR (fun _ _ h => h) (fun _ h => h.elim) ?aF ?aB ?aS ?aL ?_
        (case aR => repeat (first | exact (Kd.R_reads' HO762.out).2.2 | (with_reducible first | apply cA_ | apply cN_ | apply cD_)))
        (case aB => exact (bb2_ HB GE746 GE747))
        (case aF => exact (fun k_ hk => Kd.fresh' (Kd.R_lt (ra_ HO762)) k_ hk))
        (case aO => exact (ra_ HO758))
        (case aS => exact (below_size (bb2_ HB GE746 GE747)))
        (case aL => have := LMc16.out; omega)
        intro v764 w31 ho hb hg hat
        rw [← Ny763.out] at ho
        have n0_ := Aside0.mk (blk_grown (g := gb746) (o := .cells #[.slice A0_0 l0_0.length c0_0, .slice (some ad759) l0_1.length c0_1, .slice A0_2 l0_2.length c0_2] 35 (0, 0)) (la_ BK746) hg (Kd.R_ne HO758.out BK746.out (by decide)))
        have n1_ := Aside0.mk (blk_grown (g := gb747) (o := .cells #[.slice none 0 0, .slice none 0 0, .slice none 0 0] 35 (0, 0)) (la_ BK747) hg (Kd.R_ne HO758.out BK747.out (by decide)))
        have n2_ := Aside0.mk (Kd.R_after (ok := (fun _ => True)) (by (with_reducible repeat (first | apply rA_ | apply rN_ | apply rD_)); exact Kd.R_mono HO762.out (fun _ hk => ⟨trivial, hk⟩)) hg hat)
        have n3_ := Aside0.mk (hb)
        have n4_ := Aside0.mk (ho)
        clear BK746
        clear BK747
        clear HO762
        clear HB
        clear HO758
        have BK746 := n0_
        have BK747 := n1_
        have HO762 := n2_
        have HB := n3_
        have HO765 := n4_
        clear n0_ n1_ n2_ n3_ n4_
        clear ho hb hg hat
        obtain ⟨Ao33, co33, eo33⟩ := Kd.R_slice HO765.out
        (first | subst eo33 | (injection eo33 with f1_ f2_ f3_; have f4_ := f1_.symm; have f5_ := f3_.symm; clear f1_ f2_ f3_; subst f4_; subst f5_))
        refine hK.out _ _ ⟨(blk_cell BK746.out 0).trans rfl, (blk_cell BK746.out 1).trans rfl, (blk_cell BK746.out 2).trans rfl, ((HB.out.cell (World.block_lt_of_cell? w _ hw759_0)).trans hw759_0), ((HB.out.cell (World.block_lt_of_cell? w _ hw759_1)).trans hw759_1), ((HB.out.cell (World.block_lt_of_cell? w _ hw759_2)).trans hw759_2), ((HB.out.cell (World.block_lt_of_cell? w _ hw759_3)).trans hw759_3)⟩ (fun hHeld => ?_)
        clear hK K
        refine norm_ (a' := ?_) ?_ ?_
        rotate_left
        ·show Act.put _ (some 33) _ = _
         simp only [Act.put, List.setIfInBounds_toArray, List.set_cons_zero, List.set_cons_succ, i64_w, i32_w]
         rfl
        refine one_ (i := 18) (N := some 34) #[true, true, true, true, true, true, true, true, true, true, true, true, true, true, true, true, true, true, true, false, false] rfl rfl (one_of HT_.out (by kernel_rfl)) (by decide) (fun K hK => ?_)
        refine goes_ Try.func68 (by kernel_rfl) rfl #[.agg #[.slice A0_0 l0_0.length c0_0, .slice (some ad759) l0_1.length c0_1, .slice A0_2 l0_2.length c0_2], .slice (some ad759) y749.length c0_1, .slice Ao33 y763.length co33] (by rfl) rfl rfl args_ ?_
        with_reducible refine (spec_unDesk.calls _ _ l0_0 _ _ l0_1 _ _ l0_2 _ _ y749 _ _ y763 t766 t769 t772 _ ?side1 ?side2 ?side3 ?side4 ?side5 ?side6 ?side7 ?side8 ?side9 ?side10 A17.out).mono ?_
        (case side1 => repeat (first | exact (Kd.C_below HR0_0.out HB.out) | (with_reducible first | apply cA_ | apply cN_ | apply cD_)))
        (case side2 => exact HC0_0.out)
        (case side3 => repeat (first | exact (Kd.C_below HR0_1.out HB.out) | (with_reducible first | apply cA_ | apply cN_ | apply cD_)))
        (case side4 => exact HC0_1.out)
        (case side5 => repeat (first | exact (Kd.C_below HR0_2.out HB.out) | (with_reducible first | apply cA_ | apply cN_ | apply cD_)))
        (case side6 => exact HC0_2.out)
        (case side7 => repeat (first | exact (Kd.C_below HR752.out HB.out) | (with_reducible first | apply cA_ | apply cN_ | apply cD_)))
        (case side8 => exact HC752.out)
        (case side9 => repeat (first | exact (Kd.R_reads' HO765.out).2.2 | (with_reducible first | apply cA_ | apply cN_ | apply cD_)))
        (case side10 => exact (Kd.R_reads' HO765.out).2.1)
        rintro e w34 ⟨v767, v770, v773, rfl, ho0, ho1, ho2, hb⟩
        refine ⟨_, rfl, ?_⟩
        have n0_ := Aside0.mk (Kd.R_mono (Kd.R_told (Kd.R_told (Kd.R_old (ra_ HO762) hb) (Kd.R_base ho1)) (Kd.R_base ho2)) (fun _ h_ => h_.1))
        have n1_ := Aside0.mk (Kd.R_mono (Kd.R_told (Kd.R_told (Kd.R_old (ra_ HO765) hb) (Kd.R_base ho1)) (Kd.R_base ho2)) (fun _ h_ => h_.1))
        have n2_ := Aside0.mk (Kd.R_lower ho0 (below_size (bb2_ HB GE746 GE747)))
        have n3_ := Aside0.mk (Kd.R_lower (Kd.R_new' (Kd.R_new' ho1 (Kd.R_lt (ra_ HO762))) (Kd.R_lt (ra_ HO765))) (below_size (bb2_ HB GE746 GE747)))
        have n4_ := Aside0.mk (Kd.R_lower (Kd.R_new' (Kd.R_new' ho2 (Kd.R_lt (ra_ HO762))) (Kd.R_lt (ra_ HO765))) (below_size (bb2_ HB GE746 GE747)))
        have n5_ := Aside0.mk (lb_ BK746 hb)
        have n6_ := Aside0.mk (lb_ BK747 hb)
        have n7_ := Aside0.mk (below_step (bb2_ HB GE746 GE747) hb)
        clear HO762
        clear HO765
        clear BK746
        clear BK747
        clear HB
        have HO762 := n0_
        have HO765 := n1_
        have HO768 := n2_
        have HO771 := n3_
        have HO774 := n4_
        have BK746 := n5_
        have BK747 := n6_
        have HB := n7_
        clear n0_ n1_ n2_ n3_ n4_ n5_ n6_ n7_
        (try clear hb)
        (try clear hb2)
        (try clear hk)
        (try clear hi)
        (try clear ho0)
        (try clear ho1)
        (try clear ho2)
        obtain ⟨Ao35, co35, eo35⟩ := Kd.R_slice HO768.out
        (first | subst eo35 | (injection eo35 with f1_ f2_ f3_; have f4_ := f1_.symm; have f5_ := f3_.symm; clear f1_ f2_ f3_; subst f4_; subst f5_))
        obtain ⟨Ao37, co37, eo37⟩ := Kd.R_slice HO771.out
        (first | subst eo37 | (injection eo37 with f1_ f2_ f3_; have f4_ := f1_.symm; have f5_ := f3_.symm; clear f1_ f2_ f3_; subst f4_; subst f5_))
        obtain ⟨Ao39, co39, eo39⟩ := Kd.R_slice HO774.out
        (first | subst eo39 | (injection eo39 with f1_ f2_ f3_; have f4_ := f1_.symm; have f5_ := f3_.symm; clear f1_ f2_ f3_; subst f4_; subst f5_))
        refine hK.out _ _ ⟨(blk_cell BK746.out 0).trans rfl, (blk_cell BK746.out 1).trans rfl, (blk_cell BK746.out 2).trans rfl, ((HB.out.cell (World.block_lt_of_cell? w _ hw759_0)).trans hw759_0), ((HB.out.cell (World.block_lt_of_cell? w _ hw759_1)).trans hw759_1), ((HB.out.cell (World.block_lt_of_cell? w _ hw759_2)).trans hw759_2), ((HB.out.cell (World.block_lt_of_cell? w _ hw759_3)).trans hw759_3)⟩ (fun hHeld => ?_)
        clear hK K
        refine norm_ (a' := ?_) ?_ ?_
        rotate_left
        ·show Act.put _ (some 34) _ = _
         simp only [Act.put, List.setIfInBounds_toArray, List.set_cons_zero, List.set_cons_succ, i64_w, i32_w]
         rfl
        refine one_ (i := 19) (N := none) #[true, true, true, true, true, true, true, true, true, true, true, true, true, true, true, true, true, true, true, true, false] rfl rfl (one_of HT_.out (by kernel_rfl)) (by decide) (fun K hK => ?_)
        have hs36 : w34.cell? ⟨gb747, 0, none⟩ = some (.slice none 0 0) := (blk_cell BK747.out 0).trans rfl
        have hfs36 := blk_frozen BK747.out 0
        have hns36_0 := NB746_747.out
        have hms36_0 := NB747_746.out
        have hs38 : w34.cell? ⟨gb747, 1, none⟩ = some (.slice none 0 0) := (blk_cell BK747.out 1).trans rfl
        have hfs38 := blk_frozen BK747.out 1
        have hns38_0 := NB746_747.out
        have hms38_0 := NB747_746.out
        have hs40 : w34.cell? ⟨gb747, 2, none⟩ = some (.slice none 0 0) := (blk_cell BK747.out 2).trans rfl
        have hfs40 := blk_frozen BK747.out 2
        have hns40_0 := NB746_747.out
        have hms40_0 := NB747_746.out
        refine skip_ (w1 := ?_) (by rfl) rfl ?_ ?_
        rotate_left
        ·go_simp
         rfl
        refine hK.out _ _ ⟨((cell_far (p := ⟨gb747, _, none⟩) NB746_747.out _).trans (((cell_far (p := ⟨gb747, _, none⟩) NB746_747.out _).trans (((cell_far (p := ⟨gb747, _, none⟩) NB746_747.out _).trans (hHeld.1)))))), ((cell_far (p := ⟨gb747, _, none⟩) NB746_747.out _).trans (((cell_far (p := ⟨gb747, _, none⟩) NB746_747.out _).trans (((cell_far (p := ⟨gb747, _, none⟩) NB746_747.out _).trans (hHeld.2.1)))))), ((cell_far (p := ⟨gb747, _, none⟩) NB746_747.out _).trans (((cell_far (p := ⟨gb747, _, none⟩) NB746_747.out _).trans (((cell_far (p := ⟨gb747, _, none⟩) NB746_747.out _).trans (hHeld.2.2.1)))))), ((cell_far (p := ⟨gb747, _, none⟩) (by first | exact Nat.ne_of_lt (Nat.lt_of_lt_of_le (by have := World.block_lt_of_cell? _ _ hw759_0; first | rwa [add_block] at this | exact this) GW747.out) | (rw [add_block]; exact Nat.ne_of_lt (Nat.lt_of_lt_of_le (by have := World.block_lt_of_cell? _ _ hw759_0; first | rwa [add_block] at this | exact this) GW747.out)) | (show (Addr.add _ _).block ≠ _; rw [add_block]; exact Nat.ne_of_lt (Nat.lt_of_lt_of_le (by have := World.block_lt_of_cell? _ _ hw759_0; first | rwa [add_block] at this | exact this) GW747.out)) | (dsimp only; exact Nat.ne_of_lt (Nat.lt_of_lt_of_le (by have := World.block_lt_of_cell? _ _ hw759_0; first | rwa [add_block] at this | exact this) GW747.out))) _).trans (((cell_far (p := ⟨gb747, _, none⟩) (by first | exact Nat.ne_of_lt (Nat.lt_of_lt_of_le (by have := World.block_lt_of_cell? _ _ hw759_0; first | rwa [add_block] at this | exact this) GW747.out) | (rw [add_block]; exact Nat.ne_of_lt (Nat.lt_of_lt_of_le (by have := World.block_lt_of_cell? _ _ hw759_0; first | rwa [add_block] at this | exact this) GW747.out)) | (show (Addr.add _ _).block ≠ _; rw [add_block]; exact Nat.ne_of_lt (Nat.lt_of_lt_of_le (by have := World.block_lt_of_cell? _ _ hw759_0; first | rwa [add_block] at this | exact this) GW747.out)) | (dsimp only; exact Nat.ne_of_lt (Nat.lt_of_lt_of_le (by have := World.block_lt_of_cell? _ _ hw759_0; first | rwa [add_block] at this | exact this) GW747.out))) _).trans (((cell_far (p := ⟨gb747, _, none⟩) (by first | exact Nat.ne_of_lt (Nat.lt_of_lt_of_le (by have := World.block_lt_of_cell? _ _ hw759_0; first | rwa [add_block] at this | exact this) GW747.out) | (rw [add_block]; exact Nat.ne_of_lt (Nat.lt_of_lt_of_le (by have := World.block_lt_of_cell? _ _ hw759_0; first | rwa [add_block] at this | exact this) GW747.out)) | (show (Addr.add _ _).block ≠ _; rw [add_block]; exact Nat.ne_of_lt (Nat.lt_of_lt_of_le (by have := World.block_lt_of_cell? _ _ hw759_0; first | rwa [add_block] at this | exact this) GW747.out)) | (dsimp only; exact Nat.ne_of_lt (Nat.lt_of_lt_of_le (by have := World.block_lt_of_cell? _ _ hw759_0; first | rwa [add_block] at this | exact this) GW747.out))) _).trans (hHeld.2.2.2.1)))))), ((cell_far (p := ⟨gb747, _, none⟩) (by first | exact Nat.ne_of_lt (Nat.lt_of_lt_of_le (by have := World.block_lt_of_cell? _ _ hw759_1; first | rwa [add_block] at this | exact this) GW747.out) | (rw [add_block]; exact Nat.ne_of_lt (Nat.lt_of_lt_of_le (by have := World.block_lt_of_cell? _ _ hw759_1; first | rwa [add_block] at this | exact this) GW747.out)) | (show (Addr.add _ _).block ≠ _; rw [add_block]; exact Nat.ne_of_lt (Nat.lt_of_lt_of_le (by have := World.block_lt_of_cell? _ _ hw759_1; first | rwa [add_block] at this | exact this) GW747.out)) | (dsimp only; exact Nat.ne_of_lt (Nat.lt_of_lt_of_le (by have := World.block_lt_of_cell? _ _ hw759_1; first | rwa [add_block] at this | exact this) GW747.out))) _).trans (((cell_far (p := ⟨gb747, _, none⟩) (by first | exact Nat.ne_of_lt (Nat.lt_of_lt_of_le (by have := World.block_lt_of_cell? _ _ hw759_1; first | rwa [add_block] at this | exact this) GW747.out) | (rw [add_block]; exact Nat.ne_of_lt (Nat.lt_of_lt_of_le (by have := World.block_lt_of_cell? _ _ hw759_1; first | rwa [add_block] at this | exact this) GW747.out)) | (show (Addr.add _ _).block ≠ _; rw [add_block]; exact Nat.ne_of_lt (Nat.lt_of_lt_of_le (by have := World.block_lt_of_cell? _ _ hw759_1; first | rwa [add_block] at this | exact this) GW747.out)) | (dsimp only; exact Nat.ne_of_lt (Nat.lt_of_lt_of_le (by have := World.block_lt_of_cell? _ _ hw759_1; first | rwa [add_block] at this | exact this) GW747.out))) _).trans (((cell_far (p := ⟨gb747, _, none⟩) (by first | exact Nat.ne_of_lt (Nat.lt_of_lt_of_le (by have := World.block_lt_of_cell? _ _ hw759_1; first | rwa [add_block] at this | exact this) GW747.out) | (rw [add_block]; exact Nat.ne_of_lt (Nat.lt_of_lt_of_le (by have := World.block_lt_of_cell? _ _ hw759_1; first | rwa [add_block] at this | exact this) GW747.out)) | (show (Addr.add _ _).block ≠ _; rw [add_block]; exact Nat.ne_of_lt (Nat.lt_of_lt_of_le (by have := World.block_lt_of_cell? _ _ hw759_1; first | rwa [add_block] at this | exact this) GW747.out)) | (dsimp only; exact Nat.ne_of_lt (Nat.lt_of_lt_of_le (by have := World.block_lt_of_cell? _ _ hw759_1; first | rwa [add_block] at this | exact this) GW747.out))) _).trans (hHeld.2.2.2.2.1)))))), ((cell_far (p := ⟨gb747, _, none⟩) (by first | exact Nat.ne_of_lt (Nat.lt_of_lt_of_le (by have := World.block_lt_of_cell? _ _ hw759_2; first | rwa [add_block] at this | exact this) GW747.out) | (rw [add_block]; exact Nat.ne_of_lt (Nat.lt_of_lt_of_le (by have := World.block_lt_of_cell? _ _ hw759_2; first | rwa [add_block] at this | exact this) GW747.out)) | (show (Addr.add _ _).block ≠ _; rw [add_block]; exact Nat.ne_of_lt (Nat.lt_of_lt_of_le (by have := World.block_lt_of_cell? _ _ hw759_2; first | rwa [add_block] at this | exact this) GW747.out)) | (dsimp only; exact Nat.ne_of_lt (Nat.lt_of_lt_of_le (by have := World.block_lt_of_cell? _ _ hw759_2; first | rwa [add_block] at this | exact this) GW747.out))) _).trans (((cell_far (p := ⟨gb747, _, none⟩) (by first | exact Nat.ne_of_lt (Nat.lt_of_lt_of_le (by have := World.block_lt_of_cell? _ _ hw759_2; first | rwa [add_block] at this | exact this) GW747.out) | (rw [add_block]; exact Nat.ne_of_lt (Nat.lt_of_lt_of_le (by have := World.block_lt_of_cell? _ _ hw759_2; first | rwa [add_block] at this | exact this) GW747.out)) | (show (Addr.add _ _).block ≠ _; rw [add_block]; exact Nat.ne_of_lt (Nat.lt_of_lt_of_le (by have := World.block_lt_of_cell? _ _ hw759_2; first | rwa [add_block] at this | exact this) GW747.out)) | (dsimp only; exact Nat.ne_of_lt (Nat.lt_of_lt_of_le (by have := World.block_lt_of_cell? _ _ hw759_2; first | rwa [add_block] at this | exact this) GW747.out))) _).trans (((cell_far (p := ⟨gb747, _, none⟩) (by first | exact Nat.ne_of_lt (Nat.lt_of_lt_of_le (by have := World.block_lt_of_cell? _ _ hw759_2; first | rwa [add_block] at this | exact this) GW747.out) | (rw [add_block]; exact Nat.ne_of_lt (Nat.lt_of_lt_of_le (by have := World.block_lt_of_cell? _ _ hw759_2; first | rwa [add_block] at this | exact this) GW747.out)) | (show (Addr.add _ _).block ≠ _; rw [add_block]; exact Nat.ne_of_lt (Nat.lt_of_lt_of_le (by have := World.block_lt_of_cell? _ _ hw759_2; first | rwa [add_block] at this | exact this) GW747.out)) | (dsimp only; exact Nat.ne_of_lt (Nat.lt_of_lt_of_le (by have := World.block_lt_of_cell? _ _ hw759_2; first | rwa [add_block] at this | exact this) GW747.out))) _).trans (hHeld.2.2.2.2.2.1)))))), ((cell_far (p := ⟨gb747, _, none⟩) (by first | exact Nat.ne_of_lt (Nat.lt_of_lt_of_le (by have := World.block_lt_of_cell? _ _ hw759_3; first | rwa [add_block] at this | exact this) GW747.out) | (rw [add_block]; exact Nat.ne_of_lt (Nat.lt_of_lt_of_le (by have := World.block_lt_of_cell? _ _ hw759_3; first | rwa [add_block] at this | exact this) GW747.out)) | (show (Addr.add _ _).block ≠ _; rw [add_block]; exact Nat.ne_of_lt (Nat.lt_of_lt_of_le (by have := World.block_lt_of_cell? _ _ hw759_3; first | rwa [add_block] at this | exact this) GW747.out)) | (dsimp only; exact Nat.ne_of_lt (Nat.lt_of_lt_of_le (by have := World.block_lt_of_cell? _ _ hw759_3; first | rwa [add_block] at this | exact this) GW747.out))) _).trans (((cell_far (p := ⟨gb747, _, none⟩) (by first | exact Nat.ne_of_lt (Nat.lt_of_lt_of_le (by have := World.block_lt_of_cell? _ _ hw759_3; first | rwa [add_block] at this | exact this) GW747.out) | (rw [add_block]; exact Nat.ne_of_lt (Nat.lt_of_lt_of_le (by have := World.block_lt_of_cell? _ _ hw759_3; first | rwa [add_block] at this | exact this) GW747.out)) | (show (Addr.add _ _).block ≠ _; rw [add_block]; exact Nat.ne_of_lt (Nat.lt_of_lt_of_le (by have := World.block_lt_of_cell? _ _ hw759_3; first | rwa [add_block] at this | exact this) GW747.out)) | (dsimp only; exact Nat.ne_of_lt (Nat.lt_of_lt_of_le (by have := World.block_lt_of_cell? _ _ hw759_3; first | rwa [add_block] at this | exact this) GW747.out))) _).trans (((cell_far (p := ⟨gb747, _, none⟩) (by first | exact Nat.ne_of_lt (Nat.lt_of_lt_of_le (by have := World.block_lt_of_cell? _ _ hw759_3; first | rwa [add_block] at this | exact this) GW747.out) | (rw [add_block]; exact Nat.ne_of_lt (Nat.lt_of_lt_of_le (by have := World.block_lt_of_cell? _ _ hw759_3; first | rwa [add_block] at this | exact this) GW747.out)) | (show (Addr.add _ _).block ≠ _; rw [add_block]; exact Nat.ne_of_lt (Nat.lt_of_lt_of_le (by have := World.block_lt_of_cell? _ _ hw759_3; first | rwa [add_block] at this | exact this) GW747.out)) | (dsimp only; exact Nat.ne_of_lt (Nat.lt_of_lt_of_le (by have := World.block_lt_of_cell? _ _ hw759_3; first | rwa [add_block] at this | exact this) GW747.out))) _).trans (hHeld.2.2.2.2.2.2))))))⟩ (fun hHeld => ?_)
        clear hK K
        refine pure_ (i := 20) (N := some 3) (v := ?_) (a' := ?_) #[true, true, true, true, true, true, true, true, true, true, true, true, true, true, true, true, true, true, true, true, true] rfl rfl (any_of HT_.out (by kernel_rfl)) (fun _ _ _ h => h) (Or.inl ⟨by rfl, ?_⟩) ?_ ?_
        rotate_left
        ·intro w'
         go_simp
         with_reducible rfl
        rotate_left
        ·simp only [Act.put, List.setIfInBounds_toArray, List.set_cons_zero, List.set_cons_succ, i64_w, i32_w]
         rfl
        refine done_ (done_of HT_.out (by kernel_rfl)) ?_
        try go_wp2
        refine bodyPost_ret (results_ct rfl _ _ gb747 35 #[.slice Ao35 t766.length co35, .slice Ao37 t769.length co37, .slice Ao39 t772.length co39] (0, 0) _ rfl (by (with_reducible repeat (first | apply lN_ | apply lD_ | apply lA_)); refine blk_put (cs := #[.slice Ao35 t766.length co35, .slice Ao37 t769.length co37, .slice none 0 0]) ?_ 2 _ rfl; (with_reducible repeat (first | apply lN_ | apply lD_ | apply lA_)); refine blk_put (cs := #[.slice Ao35 t766.length co35, .slice none 0 0, .slice none 0 0]) ?_ 1 _ rfl; (with_reducible repeat (first | apply lN_ | apply lD_ | apply lA_)); refine blk_put (cs := #[.slice none 0 0, .slice none 0 0, .slice none 0 0]) ?_ 0 _ rfl; (with_reducible repeat (first | apply lN_ | apply lD_ | apply lA_)); exact BK747.out) Try.underlying35 rfl (by kernel_rfl)) rfl ?_
        exact ⟨_, _, _, by first | rfl | (simp [errW_none, errW_some] <;> rfl) | (simp only [← hji11]; first | rfl | (simp [errW_none, errW_some] <;> rfl)) | (simp [*, errW_none, errW_some] <;> rfl), by (with_reducible repeat (first | apply rA_ | apply rN_ | apply rD_)); exact Kd.R_mono (fr_ (fr_ (fr_ (ft_ HO768 BK747) 0 (.slice Ao35 t766.length co35)) 1 (.slice Ao37 t769.length co37)) 2 (.slice Ao39 t772.length co39)) (fun _ hk => trivial), by (with_reducible repeat (first | apply rA_ | apply rN_ | apply rD_)); exact Kd.R_mono (fr_ (fr_ (fr_ (ft_ HO771 BK747) 0 (.slice Ao35 t766.length co35)) 1 (.slice Ao37 t769.length co37)) 2 (.slice Ao39 t772.length co39)) (fun _ hk => hk.1.1.1), by (with_reducible repeat (first | apply rA_ | apply rN_ | apply rD_)); exact Kd.R_mono (fr_ (fr_ (fr_ (ft_ HO774 BK747) 0 (.slice Ao35 t766.length co35)) 1 (.slice Ao37 t769.length co37)) 2 (.slice Ao39 t772.length co39)) (fun _ hk => hk.1.1.1), bb2_ HB GE746 GE747⟩
       ·rw [if_neg c16] at H
        exact absurd H (by simp)
      ·rw [if_neg c15] at H
       exact absurd H (by simp)
     ·rw [if_neg c14] at H
      exact absurd H (by simp)
    ·rw [if_neg c13] at H
     exact absurd H (by simp)
   ·rw [if_neg c12] at H
    exact absurd H (by simp)
 ·replace c3 := Bool.eq_false_iff.mpr c3
  subst c3
  have H1 : (some (([] : List ByteArray), ([] : List (S25)), ([] : List (S25)), false)) = some (r1, r2, r3, r4) := by rw [if_neg (show ¬ (false = true) by decide)] at H; exact H
  clear H
  have H := H1
  clear H1
  simp only [Option.some.injEq, Prod.mk.injEq] at H
  obtain ⟨rfl, rfl, rfl, rfl⟩ := H
  go_enter Try.func39, Try.ntmps39
  go_wp2_with (first | ((with_reducible refine gate_dst (N := 1) rfl ?_); refine box_event ?hg (N := 1) ?hd (cs := #[.slice A0_0 l0_0.length c0_0, .slice A0_1 l0_1.length c0_1, .slice A0_2 l0_2.length c0_2]) (t := 35) ?hr ?_; (case hd => rfl); (case hg => rfl); (case hr => first | (go_simp; done) | (go_simp; rfl)); intro gb746 hg w41 hbox hb; have n0_ := Aside0.mk (bt_ HB hb); have n1_ := Aside0.mk (hbox); have n2_ := Aside0.mk ((by rw [hg]; exact (bz_ HB) : w.heap.size ≤ gb746)); have n3_ := Aside0.mk ((by rw [hg]; exact (bz_ HB) : w.heap.size ≤ gb746)); clear HB; have HB := n0_; have BK746 := n1_; have GW746 := n2_; have GE746 := n3_; clear n0_ n1_ n2_ n3_; clear hb hbox hg) | ((with_reducible refine gate_dst (N := 2) rfl ?_); refine box_event ?hg (N := 2) ?hd (cs := #[.slice none 0 0, .slice none 0 0, .slice none 0 0]) (t := 35) ?hr ?_; (case hd => rfl); (case hg => rfl); (case hr => first | (go_simp; done) | (go_simp; rfl)); intro gb747 hg w42 hbox hb; have n0_ := Aside0.mk (lb_ BK746 hb); have n1_ := Aside0.mk (below_step (bb1_ HB GE746) hb); have n2_ := Aside0.mk (hbox); have n3_ := Aside0.mk ((by rw [hg]; exact (below_size (bb1_ HB GE746)) : w.heap.size ≤ gb747)); have n4_ := Aside0.mk ((by rw [hg]; exact (below_size (bb1_ HB GE746)) : w.heap.size ≤ gb747)); have n5_ := Aside0.mk ((by rw [hg]; exact Nat.ne_of_lt (blk_lt (g := gb746) (o := .cells #[.slice A0_0 l0_0.length c0_0, .slice A0_1 l0_1.length c0_1, .slice A0_2 l0_2.length c0_2] 35 (0, 0)) (la_ BK746)) : gb746 ≠ gb747)); have n6_ := Aside0.mk ((by rw [hg]; exact Nat.ne_of_gt (blk_lt (g := gb746) (o := .cells #[.slice A0_0 l0_0.length c0_0, .slice A0_1 l0_1.length c0_1, .slice A0_2 l0_2.length c0_2] 35 (0, 0)) (la_ BK746)) : gb747 ≠ gb746)); clear BK746; clear HB; have BK746 := n0_; have HB := n1_; have BK747 := n2_; have GW747 := n3_; have GE747 := n4_; have NB746_747 := n5_; have NB747_746 := n6_; clear n0_ n1_ n2_ n3_ n4_ n5_ n6_; clear hb hbox hg; have hnb43 := NB746_747.out; have hnc43 := NB747_746.out; have hcz44_0 : w42.cell? ⟨gb746, 0, none⟩ = some (.slice A0_0 l0_0.length c0_0) := (blk_cell BK746.out 0).trans rfl; have hcz44_1 : w42.cell? ⟨gb746, 1, none⟩ = some (.slice A0_1 l0_1.length c0_1) := (blk_cell BK746.out 1).trans rfl; have hcz44_2 : w42.cell? ⟨gb746, 2, none⟩ = some (.slice A0_2 l0_2.length c0_2) := (blk_cell BK746.out 2).trans rfl; have hfz44_0 := blk_frozen BK746.out 0; have hfz44_1 := blk_frozen BK746.out 1; have hfz44_2 := blk_frozen BK746.out 2) | ((with_reducible refine gate_callee (f := 59) rfl ?_); refine goesL_ (some 9) rfl rfl Try.func59 (by kernel_rfl) rfl #[.agg #[.slice A0_0 l0_0.length c0_0, .slice A0_1 l0_1.length c0_1, .slice A0_2 l0_2.length c0_2]] rfl args_ ?_; (with_reducible refine (spec_unGood.calls k _ _ l0_0 _ _ l0_1 _ _ l0_2 false _ ?side1 ?side2 ?side3 ?side4 ?side5 ?side6 A2.out).mono ?_); (case side1 => repeat (first | exact (Kd.C_below HR0_0.out HB.out) | (with_reducible first | apply cA_ | apply cN_ | apply cD_))); (case side2 => exact HC0_0.out); (case side3 => repeat (first | exact (Kd.C_below HR0_1.out HB.out) | (with_reducible first | apply cA_ | apply cN_ | apply cD_))); (case side4 => exact HC0_1.out); (case side5 => repeat (first | exact (Kd.C_below HR0_2.out HB.out) | (with_reducible first | apply cA_ | apply cN_ | apply cD_))); (case side6 => exact HC0_2.out); rintro e w45 ⟨rfl, hb⟩; refine ⟨_, rfl, ?_⟩; have n0_ := Aside0.mk (lb_ BK746 hb); have n1_ := Aside0.mk (lb_ BK747 hb); have n2_ := Aside0.mk (below_step (bb2_ HB GE746 GE747) hb); clear BK746; clear BK747; clear HB; have BK746 := n0_; have BK747 := n1_; have HB := n2_; clear n0_ n1_ n2_; (try clear hb); (try clear hb2); (try clear hk); (try clear hi); have hcz46_0 : w45.cell? ⟨gb747, 0, none⟩ = some (.slice none 0 0) := (blk_cell BK747.out 0).trans rfl; have hcz46_1 : w45.cell? ⟨gb747, 1, none⟩ = some (.slice none 0 0) := (blk_cell BK747.out 1).trans rfl; have hcz46_2 : w45.cell? ⟨gb747, 2, none⟩ = some (.slice none 0 0) := (blk_cell BK747.out 2).trans rfl; have hfz46_0 := blk_frozen BK747.out 0; have hfz46_1 := blk_frozen BK747.out 1; have hfz46_2 := blk_frozen BK747.out 2))
  refine bodyPost_ret (results_ct rfl _ _ gb747 35 #[.slice none 0 0, .slice none 0 0, .slice none 0 0] (0, 0) _ rfl (by (with_reducible repeat (first | apply lN_ | apply lD_ | apply lA_)); refine blk_put (cs := #[.slice none 0 0, .slice none 0 0, .slice none 0 0]) ?_ 2 _ rfl; (with_reducible repeat (first | apply lN_ | apply lD_ | apply lA_)); refine blk_put (cs := #[.slice none 0 0, .slice none 0 0, .slice none 0 0]) ?_ 1 _ rfl; (with_reducible repeat (first | apply lN_ | apply lD_ | apply lA_)); refine blk_put (cs := #[.slice none 0 0, .slice none 0 0, .slice none 0 0]) ?_ 0 _ rfl; (with_reducible repeat (first | apply lN_ | apply lD_ | apply lA_)); exact BK747.out) Try.underlying35 rfl (by kernel_rfl)) rfl ?_
  exact ⟨_, _, _, by first | rfl | (simp [errW_none, errW_some] <;> rfl) | (simp [*, errW_none, errW_some] <;> rfl), by first | exact Kd.R_nil _ _ _ _ _ | exact Kd.N_nil _ _ _ _ _ | exact Kd.V_nil _ _ _ _ _ | exact Kd.Q_nil _ _ _ _ _ | exact Kd.S_nil _ _ _ _ _, by first | exact Kd.R_nil _ _ _ _ _ | exact Kd.N_nil _ _ _ _ _ | exact Kd.V_nil _ _ _ _ _ | exact Kd.Q_nil _ _ _ _ _ | exact Kd.S_nil _ _ _ _ _, by first | exact Kd.R_nil _ _ _ _ _ | exact Kd.N_nil _ _ _ _ _ | exact Kd.V_nil _ _ _ _ _ | exact Kd.Q_nil _ _ _ _ _ | exact Kd.S_nil _ _ _ _ _, bb2_ HB GE746 GE747⟩

/-! ### impl_UndoEdit: function 40 -/
def impl_UndoEdit.j0 : Nat → Int → Bool → List ByteArray → List (S25) → List (S25) → Option (List ByteArray × (List (S25)) × (List (S25)) × Bool)
 | 0, _, _, _, _, _ => none
 | k + 1, x4, x15, x776000, x776001, x776002 => if x15 = true then (some (([] : List ByteArray), ([] : List (S25)), ([] : List (S25)), false)) else ((slices_Clone_string_string.f x776000).bind fun t778 => (if 0 ≤ x4 then (if x4 ≤ (x776001.length : Int) then ((impl_DeskEdit_69.f (x776001.take (x4 : Int).toNat)).bind fun t785 => ((impl_DeskEdit_69.f x776002).bind fun t788 => (if x4 < (x776001.length : Int) then ((some (([(⟨(rd_T25 x776001 x4).f0, (rd_T25 x776001 x4).f1, (rd_T25 x776001 x4).f2, (rd_T25 x776001 x4).f3⟩ : S25)] : List (S25)) : List (S25))).bind fun y792 => (if t788.length + y792.length < 2932031007402 then (some (t778, t785, (t788 ++ y792), true)) else (none))) else (none)))) else (none)) else (none)))
def impl_UndoEdit.f (k : Nat) (l0_0 : List ByteArray) (l0_1 : List (S25)) (l0_2 : List (S25)) : Option (List ByteArray × (List (S25)) × (List (S25)) × Bool) := (impl_IsDesk.f k l0_0 l0_1 l0_2).bind fun t777 => (if t777 = true then (impl_UndoEdit.j0 k (wrap64 ((l0_1.length : Int) - 1)) (decide ((wrap64 ((l0_1.length : Int) - 1)) < 0)) l0_0 l0_1 l0_2) else (impl_UndoEdit.j0 k (wrap64 ((l0_1.length : Int) - 1)) true l0_0 l0_1 l0_2))
theorem impl_UndoEdit.mono_l : ∀ k, (∀ y0 y1 y2 y3 y4, LeO (impl_UndoEdit.j0 k y0 y1 y2 y3 y4) (impl_UndoEdit.j0 (k + 1) y0 y1 y2 y3 y4))
 | 0 => fun _ _ _ _ _ r h => by simp [impl_UndoEdit.j0] at h
 | k + 1 => by
  have ih0 := impl_UndoEdit.mono_l k
  ·intro y0 y1 y2 y3 y4
   unfold impl_UndoEdit.j0
   repeat' first
   | (with_reducible exact ih0 _ _ _ _ _)
   | (with_reducible exact impl_IsDesk.mono _ _ _ _)
   | (with_reducible exact LeO.refl _)
   | (with_reducible exact LeO.none _)
   | (with_reducible refine LeO.ite ?_ ?_)
   | (with_reducible refine LeO.bind ?_ (fun _ => ?_))
   | exact ih0 _ _ _ _ _
   | exact LeO.none _
   | refine LeO.ite ?_ ?_
   | refine LeO.bind ?_ (fun _ => ?_)
theorem impl_UndoEdit.mono : ∀ a0 a1 a2 k, LeO (impl_UndoEdit.f k a0 a1 a2) (impl_UndoEdit.f (k + 1) a0 a1 a2) := by
 intro a0 a1 a2 k
 have ih0 := impl_UndoEdit.mono_l k
 unfold impl_UndoEdit.f
 repeat' first
   | (with_reducible exact ih0 _ _ _ _ _)
   | (with_reducible exact impl_IsDesk.mono _ _ _ _)
   | (with_reducible exact LeO.refl _)
   | (with_reducible exact LeO.none _)
   | (with_reducible refine LeO.ite ?_ ?_)
   | (with_reducible refine LeO.bind ?_ (fun _ => ?_))
   | exact ih0 _ _ _ _ _
   | exact LeO.none _
   | refine LeO.ite ?_ ?_
   | refine LeO.bind ?_ (fun _ => ?_)
def impl_UndoEdit.T4 : Bool × List (List Nat × List Nat) := (true, [([], []), ([0], [0]), ([1], [1]), ([], []), ([3], [3]), ([], []), ([4, 5], [4, 5]), ([6, 2], [6]), ([], []), ([8], [8]), ([9, 7], [9]), ([], []), ([11], [11]), ([], []), ([12, 13], [12, 13]), ([14], [14]), ([15], [15]), ([10, 16, 10], [10, 16]), ([2, 7, 17], [2, 7, 17]), ([18, 17, 0, 1, 2, 3, 4, 5, 6, 7, 8, 9, 10, 11, 12, 13, 14, 15, 16, 17, 18], [18]), ([19, 0, 1, 2, 3, 4, 5, 6, 7, 8, 9, 10, 11, 12, 13, 14, 15, 16, 17, 18, 19], [])])
def impl_UndoEdit.B4 : List Nat := [0, 1, 3, 0, 8, 0, 56, 127, 0, 256, 1023, 0, 2048, 0, 14336, 30720, 63488, 131071, 262143, 524287, 1048575]
theorem impl_UndoEdit.tab4 : rtab .any (opsOf Try.f40 4) = impl_UndoEdit.T4 := by kernel_rfl
theorem impl_UndoEdit.bits4 : waitsOk impl_UndoEdit.T4.2 impl_UndoEdit.B4 = true := by kernel_rfl
set_option maxHeartbeats 8000000 in
set_option maxRecDepth 100000 in
theorem impl_UndoEdit.calls (k : Nat) (A0_0 : Option Addr) (c0_0 : Nat) (l0_0 : List ByteArray) (A0_1 : Option Addr) (c0_1 : Nat) (l0_1 : List (S25)) (A0_2 : Option Addr) (c0_2 : Nat) (l0_2 : List (S25)) (r1 : List ByteArray) (r2 : List (S25)) (r3 : List (S25)) (r4 : Bool) (w : World) (hr0_0 : Kd.C Kd.string w A0_0 l0_0.length l0_0) (hc0_0 : l0_0.length ≤ c0_0) (hr0_1 : Kd.C k25 w A0_1 l0_1.length l0_1) (hc0_1 : l0_1.length ≤ c0_1) (hr0_2 : Kd.C k25 w A0_2 l0_2.length l0_2) (hc0_2 : l0_2.length ≤ c0_2) (h : impl_UndoEdit.f k l0_0 l0_1 l0_2 = some (r1, r2, r3, r4)) :
  Calls Try.prog 40 #[.agg #[.slice A0_0 l0_0.length c0_0, .slice A0_1 l0_1.length c0_1, .slice A0_2 l0_2.length c0_2]] w fun e w' => ∃ v0_ v1_ v2_ : Value, e = .returned (.tuple #[.agg #[v0_, v1_, v2_], .bool r4]) ∧ Kd.R Kd.string 9 w' w.heap.size (fun _ => True) v0_ r1 ∧ Kd.R k25 25 w' w.heap.size (fun k_ => some k_ ≠ (v2_ : Value).ownBlock) v1_ r2 ∧ Kd.R k25 25 w' w.heap.size (fun k_ => some k_ ≠ (v1_ : Value).ownBlock) v2_ r3 ∧ Below w.heap.size w w' := by
 have hu35 := Try.underlying35
 have hu25 := Try.underlying25
 have HR0_0 := Aside0.mk hr0_0
 have HC0_0 := Aside0.mk hc0_0
 clear hr0_0 hc0_0
 have HR0_1 := Aside0.mk hr0_1
 have HC0_1 := Aside0.mk hc0_1
 clear hr0_1 hc0_1
 have HR0_2 := Aside0.mk hr0_2
 have HC0_2 := Aside0.mk hc0_2
 clear hr0_2 hc0_2
 have HB := Aside0.mk (Below.refl w.heap.size w)
 have H : ((impl_IsDesk.f k l0_0 l0_1 l0_2).bind fun t777 => (if t777 = true then (impl_UndoEdit.j0 k (wrap64 ((l0_1.length : Int) - 1)) (decide ((wrap64 ((l0_1.length : Int) - 1)) < 0)) l0_0 l0_1 l0_2) else (impl_UndoEdit.j0 k (wrap64 ((l0_1.length : Int) - 1)) true l0_0 l0_1 l0_2))) = some (r1, r2, r3, r4) := h
 clear h
 have HC2 := Aside0.mk H
 clear H
 go_enter Try.func40, Try.ntmps40
 go_upto_region 2 with (first | ((with_reducible refine gate_dst (N := 1) rfl ?_); refine box_event ?hg (N := 1) ?hd (cs := #[.slice A0_0 l0_0.length c0_0, .slice A0_1 l0_1.length c0_1, .slice A0_2 l0_2.length c0_2]) (t := 35) ?hr ?_; (case hd => rfl); (case hg => rfl); (case hr => first | (go_simp; done) | (go_simp; rfl)); intro gb775 hg w3 hbox hb; have n0_ := Aside0.mk (bt_ HB hb); have n1_ := Aside0.mk (hbox); have n2_ := Aside0.mk ((by rw [hg]; exact (bz_ HB) : w.heap.size ≤ gb775)); have n3_ := Aside0.mk ((by rw [hg]; exact (bz_ HB) : w.heap.size ≤ gb775)); clear HB; have HB := n0_; have BK775 := n1_; have GW775 := n2_; have GE775 := n3_; clear n0_ n1_ n2_ n3_; clear hb hbox hg) | ((with_reducible refine gate_dst (N := 2) rfl ?_); refine box_event ?hg (N := 2) ?hd (cs := #[.slice none 0 0, .slice none 0 0, .slice none 0 0]) (t := 35) ?hr ?_; (case hd => rfl); (case hg => rfl); (case hr => first | (go_simp; done) | (go_simp; rfl)); intro gb776 hg w4 hbox hb; have n0_ := Aside0.mk (lb_ BK775 hb); have n1_ := Aside0.mk (below_step (bb1_ HB GE775) hb); have n2_ := Aside0.mk (hbox); have n3_ := Aside0.mk ((by rw [hg]; exact (below_size (bb1_ HB GE775)) : w.heap.size ≤ gb776)); have n4_ := Aside0.mk ((by rw [hg]; exact (below_size (bb1_ HB GE775)) : w.heap.size ≤ gb776)); have n5_ := Aside0.mk ((by rw [hg]; exact Nat.ne_of_lt (blk_lt (g := gb775) (o := .cells #[.slice A0_0 l0_0.length c0_0, .slice A0_1 l0_1.length c0_1, .slice A0_2 l0_2.length c0_2] 35 (0, 0)) (la_ BK775)) : gb775 ≠ gb776)); have n6_ := Aside0.mk ((by rw [hg]; exact Nat.ne_of_gt (blk_lt (g := gb775) (o := .cells #[.slice A0_0 l0_0.length c0_0, .slice A0_1 l0_1.length c0_1, .slice A0_2 l0_2.length c0_2] 35 (0, 0)) (la_ BK775)) : gb776 ≠ gb775)); clear BK775; clear HB; have BK775 := n0_; have HB := n1_; have BK776 := n2_; have GW776 := n3_; have GE776 := n4_; have NB775_776 := n5_; have NB776_775 := n6_; clear n0_ n1_ n2_ n3_ n4_ n5_ n6_; clear hb hbox hg; have hnb5 := NB775_776.out; have hnc5 := NB776_775.out; have hcz6_0 : w4.cell? ⟨gb775, 0, none⟩ = some (.slice A0_0 l0_0.length c0_0) := (blk_cell BK775.out 0).trans rfl; have hcz6_1 : w4.cell? ⟨gb775, 1, none⟩ = some (.slice A0_1 l0_1.length c0_1) := (blk_cell BK775.out 1).trans rfl; have hcz6_2 : w4.cell? ⟨gb775, 2, none⟩ = some (.slice A0_2 l0_2.length c0_2) := (blk_cell BK775.out 2).trans rfl; have hfz6_0 := blk_frozen BK775.out 0; have hfz6_1 := blk_frozen BK775.out 1; have hfz6_2 := blk_frozen BK775.out 2))
 (try simp only [Act.put, List.setIfInBounds_toArray, List.set_cons_zero, List.set_cons_succ])
 go_cut [15] (fun v15 wc => ∃ (kq : Nat) (x15_1 : Bool), v15 = .bool x15_1 ∧ Aside0 (impl_UndoEdit.j0 kq (wrap64 ((l0_1.length : Int) - 1)) x15_1 l0_0 l0_1 l0_2 = some (r1, r2, r3, r4)) ∧ Aside0 (kq ≤ k) ∧ Aside0 (wc.heap[gb775]? = some (.cells #[(.slice A0_0 l0_0.length c0_0), (.slice A0_1 l0_1.length c0_1), (.slice A0_2 l0_2.length c0_2)] 35 (0, 0))) ∧ Aside0 (wc.heap[gb776]? = some (.cells #[(.slice none 0 0), (.slice none 0 0), (.slice none 0 0)] 35 (0, 0))) ∧ Aside0 (Below w.heap.size w wc))
 case first =>
  have H := HC2.out
  clear HC2
  replace H := Option.bind_eq_some_iff.mp H
  obtain ⟨t777, A70, H⟩ := H
  try dsimp only at H
  have A7 := Aside0.mk A70
  clear A70
  by_cases c8 : t777 = true
  ·subst c8
   have H1 : (impl_UndoEdit.j0 k (wrap64 ((l0_1.length : Int) - 1)) (decide ((wrap64 ((l0_1.length : Int) - 1)) < 0)) l0_0 l0_1 l0_2) = some (r1, r2, r3, r4) := by rw [if_pos rfl] at H; exact H
   clear H
   have H := H1
   clear H1
   have H' := Aside0.mk H
   clear H
   have hnb9 := NB775_776.out
   have hnc9 := NB776_775.out
   have hcz10_0 : w4.cell? ⟨gb775, 0, none⟩ = some (.slice A0_0 l0_0.length c0_0) := (blk_cell BK775.out 0).trans rfl
   have hcz10_1 : w4.cell? ⟨gb775, 1, none⟩ = some (.slice A0_1 l0_1.length c0_1) := (blk_cell BK775.out 1).trans rfl
   have hcz10_2 : w4.cell? ⟨gb775, 2, none⟩ = some (.slice A0_2 l0_2.length c0_2) := (blk_cell BK775.out 2).trans rfl
   have hfz10_0 := blk_frozen BK775.out 0
   have hfz10_1 := blk_frozen BK775.out 1
   have hfz10_2 := blk_frozen BK775.out 2
   go_wp2_with (first | ((with_reducible refine gate_callee (f := 31) rfl ?_); refine goesL_ (some 10) rfl rfl Try.func31 (by kernel_rfl) rfl #[.agg #[.slice A0_0 l0_0.length c0_0, .slice A0_1 l0_1.length c0_1, .slice A0_2 l0_2.length c0_2]] rfl args_ ?_; (with_reducible refine (impl_IsDesk.calls k _ _ l0_0 _ _ l0_1 _ _ l0_2 true _ ?side1 ?side2 ?side3 ?side4 ?side5 ?side6 A7.out).mono ?_); (case side1 => repeat (first | exact (Kd.C_below HR0_0.out HB.out) | (with_reducible first | apply cA_ | apply cN_ | apply cD_))); (case side2 => exact HC0_0.out); (case side3 => repeat (first | exact (Kd.C_below HR0_1.out HB.out) | (with_reducible first | apply cA_ | apply cN_ | apply cD_))); (case side4 => exact HC0_1.out); (case side5 => repeat (first | exact (Kd.C_below HR0_2.out HB.out) | (with_reducible first | apply cA_ | apply cN_ | apply cD_))); (case side6 => exact HC0_2.out); rintro e w11 ⟨rfl, hb⟩; refine ⟨_, rfl, ?_⟩; have n0_ := Aside0.mk (lb_ BK775 hb); have n1_ := Aside0.mk (lb_ BK776 hb); have n2_ := Aside0.mk (below_step (bb2_ HB GE775 GE776) hb); clear BK775; clear BK776; clear HB; have BK775 := n0_; have BK776 := n1_; have HB := n2_; clear n0_ n1_ n2_; (try clear hb); (try clear hb2); (try clear hk); (try clear hi)))
   go_meet
   case rel => exact ⟨_, (decide ((wrap64 ((l0_1.length : Int) - 1)) < 0)), (by first | rfl | (simp; done) | (simp [*]; done)), H', ⟨by first | omega | exact Nat.le_refl _⟩, ⟨by (with_reducible repeat (first | apply lN_ | apply lD_ | apply lA_)); exact BK775.out⟩, ⟨by (with_reducible repeat (first | apply lN_ | apply lD_ | apply lA_)); exact BK776.out⟩, ⟨bb2_ HB GE775 GE776⟩⟩
  ·replace c8 := Bool.eq_false_iff.mpr c8
   subst c8
   have H1 : (impl_UndoEdit.j0 k (wrap64 ((l0_1.length : Int) - 1)) true l0_0 l0_1 l0_2) = some (r1, r2, r3, r4) := by rw [if_neg (show ¬ (false = true) by decide)] at H; exact H
   clear H
   have H := H1
   clear H1
   have H' := Aside0.mk H
   clear H
   have hnb12 := NB775_776.out
   have hnc12 := NB776_775.out
   have hcz13_0 : w4.cell? ⟨gb775, 0, none⟩ = some (.slice A0_0 l0_0.length c0_0) := (blk_cell BK775.out 0).trans rfl
   have hcz13_1 : w4.cell? ⟨gb775, 1, none⟩ = some (.slice A0_1 l0_1.length c0_1) := (blk_cell BK775.out 1).trans rfl
   have hcz13_2 : w4.cell? ⟨gb775, 2, none⟩ = some (.slice A0_2 l0_2.length c0_2) := (blk_cell BK775.out 2).trans rfl
   have hfz13_0 := blk_frozen BK775.out 0
   have hfz13_1 := blk_frozen BK775.out 1
   have hfz13_2 := blk_frozen BK775.out 2
   go_wp2_with (first | ((with_reducible refine gate_callee (f := 31) rfl ?_); refine goesL_ (some 10) rfl rfl Try.func31 (by kernel_rfl) rfl #[.agg #[.slice A0_0 l0_0.length c0_0, .slice A0_1 l0_1.length c0_1, .slice A0_2 l0_2.length c0_2]] rfl args_ ?_; (with_reducible refine (impl_IsDesk.calls k _ _ l0_0 _ _ l0_1 _ _ l0_2 false _ ?side1 ?side2 ?side3 ?side4 ?side5 ?side6 A7.out).mono ?_); (case side1 => repeat (first | exact (Kd.C_below HR0_0.out HB.out) | (with_reducible first | apply cA_ | apply cN_ | apply cD_))); (case side2 => exact HC0_0.out); (case side3 => repeat (first | exact (Kd.C_below HR0_1.out HB.out) | (with_reducible first | apply cA_ | apply cN_ | apply cD_))); (case side4 => exact HC0_1.out); (case side5 => repeat (first | exact (Kd.C_below HR0_2.out HB.out) | (with_reducible first | apply cA_ | apply cN_ | apply cD_))); (case side6 => exact HC0_2.out); rintro e w14 ⟨rfl, hb⟩; refine ⟨_, rfl, ?_⟩; have n0_ := Aside0.mk (lb_ BK775 hb); have n1_ := Aside0.mk (lb_ BK776 hb); have n2_ := Aside0.mk (below_step (bb2_ HB GE775 GE776) hb); clear BK775; clear BK776; clear HB; have BK775 := n0_; have BK776 := n1_; have HB := n2_; clear n0_ n1_ n2_; (try clear hb); (try clear hb2); (try clear hk); (try clear hi)))
   go_meet
   case rel => exact ⟨_, (true), (by first | rfl | (simp; done) | (simp [*]; done)), H', ⟨by first | omega | exact Nat.le_refl _⟩, ⟨by (with_reducible repeat (first | apply lN_ | apply lD_ | apply lA_)); exact BK775.out⟩, ⟨by (with_reducible repeat (first | apply lN_ | apply lD_ | apply lA_)); exact BK776.out⟩, ⟨bb2_ HB GE775 GE776⟩⟩
 case rest =>
  clear HC2
  try clear c1
  try clear p2
  try clear c3
  try clear c4
  try clear c5
  try clear p6
  try clear c8
  try clear c9
  try clear c12
  try clear hcz10_0
  try clear hcz10_1
  try clear hcz10_2
  try clear hcz13_0
  try clear hcz13_1
  try clear hcz13_2
  try clear hcz6_0
  try clear hcz6_1
  try clear hcz6_2
  try clear hfz10_0
  try clear hfz10_1
  try clear hfz10_2
  try clear hfz13_0
  try clear hfz13_1
  try clear hfz13_2
  try clear hfz6_0
  try clear hfz6_1
  try clear hfz6_2
  obtain ⟨kq, x15_1, rfl, HA, HJ1, BK775, BK776, HB⟩ := hcut
  cases kq with
  | zero => exact absurd HA.out (by simp [impl_UndoEdit.j0])
  | succ kj1 =>
   have H := HA.out
   clear HA
   simp only [impl_UndoEdit.j0] at H
   by_cases c15 : x15_1 = true
   ·subst c15
    have H1 : (some (([] : List ByteArray), ([] : List (S25)), ([] : List (S25)), false)) = some (r1, r2, r3, r4) := by rw [if_pos rfl] at H; exact H
    clear H
    have H := H1
    clear H1
    simp only [Option.some.injEq, Prod.mk.injEq] at H
    obtain ⟨rfl, rfl, rfl, rfl⟩ := H
    have hnb16 := NB776_775.out
    have hnc16 := NB775_776.out
    have hcz17_0 : wc.cell? ⟨gb776, 0, none⟩ = some (.slice none 0 0) := (blk_cell BK776.out 0).trans rfl
    have hcz17_1 : wc.cell? ⟨gb776, 1, none⟩ = some (.slice none 0 0) := (blk_cell BK776.out 1).trans rfl
    have hcz17_2 : wc.cell? ⟨gb776, 2, none⟩ = some (.slice none 0 0) := (blk_cell BK776.out 2).trans rfl
    have hfz17_0 := blk_frozen BK776.out 0
    have hfz17_1 := blk_frozen BK776.out 1
    have hfz17_2 := blk_frozen BK776.out 2
    go_wp2
    refine bodyPost_ret (results_ct rfl _ _ gb776 35 #[.slice none 0 0, .slice none 0 0, .slice none 0 0] (0, 0) _ rfl (by (with_reducible repeat (first | apply lN_ | apply lD_ | apply lA_)); refine blk_put (cs := #[.slice none 0 0, .slice none 0 0, .slice none 0 0]) ?_ 2 _ rfl; (with_reducible repeat (first | apply lN_ | apply lD_ | apply lA_)); refine blk_put (cs := #[.slice none 0 0, .slice none 0 0, .slice none 0 0]) ?_ 1 _ rfl; (with_reducible repeat (first | apply lN_ | apply lD_ | apply lA_)); refine blk_put (cs := #[.slice none 0 0, .slice none 0 0, .slice none 0 0]) ?_ 0 _ rfl; (with_reducible repeat (first | apply lN_ | apply lD_ | apply lA_)); exact BK776.out) Try.underlying35 rfl (by kernel_rfl)) rfl ?_
    exact ⟨_, _, _, by first | rfl | (simp [errW_none, errW_some] <;> rfl) | (simp [*, errW_none, errW_some] <;> rfl), by first | exact Kd.R_nil _ _ _ _ _ | exact Kd.N_nil _ _ _ _ _ | exact Kd.V_nil _ _ _ _ _ | exact Kd.Q_nil _ _ _ _ _ | exact Kd.S_nil _ _ _ _ _, by first | exact Kd.R_nil _ _ _ _ _ | exact Kd.N_nil _ _ _ _ _ | exact Kd.V_nil _ _ _ _ _ | exact Kd.Q_nil _ _ _ _ _ | exact Kd.S_nil _ _ _ _ _, by first | exact Kd.R_nil _ _ _ _ _ | exact Kd.N_nil _ _ _ _ _ | exact Kd.V_nil _ _ _ _ _ | exact Kd.Q_nil _ _ _ _ _ | exact Kd.S_nil _ _ _ _ _, bb2_ HB GE775 GE776⟩
   ·replace c15 := Bool.eq_false_iff.mpr c15
    subst c15
    have H1 : ((slices_Clone_string_string.f l0_0).bind fun t778 => (if 0 ≤ (wrap64 ((l0_1.length : Int) - 1)) then (if (wrap64 ((l0_1.length : Int) - 1)) ≤ (l0_1.length : Int) then ((impl_DeskEdit_69.f (l0_1.take ((wrap64 ((l0_1.length : Int) - 1)) : Int).toNat)).bind fun t785 => ((impl_DeskEdit_69.f l0_2).bind fun t788 => (if (wrap64 ((l0_1.length : Int) - 1)) < (l0_1.length : Int) then ((some (([(⟨(rd_T25 l0_1 (wrap64 ((l0_1.length : Int) - 1))).f0, (rd_T25 l0_1 (wrap64 ((l0_1.length : Int) - 1))).f1, (rd_T25 l0_1 (wrap64 ((l0_1.length : Int) - 1))).f2, (rd_T25 l0_1 (wrap64 ((l0_1.length : Int) - 1))).f3⟩ : S25)] : List (S25)) : List (S25))).bind fun y792 => (if t788.length + y792.length < 2932031007402 then (some (t778, t785, (t788 ++ y792), true)) else (none))) else (none)))) else (none)) else (none))) = some (r1, r2, r3, r4) := by rw [if_neg (show ¬ (false = true) by decide)] at H; exact H
    clear H
    have H := H1
    clear H1
    replace H := Option.bind_eq_some_iff.mp H
    obtain ⟨t778, A180, H⟩ := H
    try dsimp only at H
    have A18 := Aside0.mk A180
    clear A180
    obtain ⟨ji19, hji19⟩ : ∃ j_ : Int, (wrap64 ((l0_1.length : Int) - 1)) = j_ := ⟨_, rfl⟩
    replace H : (if 0 ≤ (ji19) then (if (ji19) ≤ (l0_1.length : Int) then ((impl_DeskEdit_69.f (l0_1.take ((ji19) : Int).toNat)).bind fun t785 => ((impl_DeskEdit_69.f l0_2).bind fun t788 => (if (ji19) < (l0_1.length : Int) then ((some (([(⟨(rd_T25 l0_1 (ji19)).f0, (rd_T25 l0_1 (ji19)).f1, (rd_T25 l0_1 (ji19)).f2, (rd_T25 l0_1 (ji19)).f3⟩ : S25)] : List (S25)) : List (S25))).bind fun y792 => (if t788.length + y792.length < 2932031007402 then (some (t778, t785, (t788 ++ y792), true)) else (none))) else (none)))) else (none)) else (none)) = some (r1, r2, r3, r4) := by first | (rw [hji19] at H; exact H) | (simp only [hji19] at H ⊢; exact H)
    (try rw [hji19] at A18)
    have hji19w : (IntKind.i64.wrap ((l0_1.length : Int) - 1)) = ji19 := (i64_w _).trans hji19
    by_cases c20 : 0 ≤ (ji19)
    ·rw [if_pos c20] at H
     have c20b0 := eq_true c20
     have c20b1 : decide (0 ≤ (ji19)) = true := decide_eq_true c20
     clear c20
     by_cases c21 : (ji19) ≤ (l0_1.length : Int)
     ·rw [if_pos c21] at H
      have c21b0 := eq_true c21
      have c21b1 : decide ((ji19) ≤ (l0_1.length : Int)) = true := decide_eq_true c21
      clear c21
      obtain ⟨y781, hy781⟩ : ∃ y_ : List (S25), y_ = (l0_1.take ((ji19) : Int).toNat) := ⟨_, rfl⟩
      replace H : ((impl_DeskEdit_69.f y781).bind fun t785 => ((impl_DeskEdit_69.f l0_2).bind fun t788 => (if (ji19) < (l0_1.length : Int) then ((some (([(⟨(rd_T25 l0_1 (ji19)).f0, (rd_T25 l0_1 (ji19)).f1, (rd_T25 l0_1 (ji19)).f2, (rd_T25 l0_1 (ji19)).f3⟩ : S25)] : List (S25)) : List (S25))).bind fun y792 => (if t788.length + y792.length < 2932031007402 then (some (t778, t785, (t788 ++ y792), true)) else (none))) else (none)))) = some (r1, r2, r3, r4) := by first | (rw [hy781]; with_reducible exact H) | (have H2_ := (Option.bind_some _ _).symm.trans H; rw [hy781]; with_reducible exact H2_) | (have H2_ := (Option.bind_some _ _).symm.trans H; with_reducible exact H2_) | with_reducible exact H | (rw [hy781]; exact H) | exact H
      have Ny781 := Aside0.mk hy781
      clear hy781
      replace H := Option.bind_eq_some_iff.mp H
      obtain ⟨t785, A220, H⟩ := H
      try dsimp only at H
      have A22 := Aside0.mk A220
      clear A220
      replace H := Option.bind_eq_some_iff.mp H
      obtain ⟨t788, A230, H⟩ := H
      try dsimp only at H
      have A23 := Aside0.mk A230
      clear A230
      by_cases c24 : (ji19) < (l0_1.length : Int)
      ·rw [if_pos c24] at H
       have c24b0 : decide ((ji19) < (l0_1.length : Int)) = true := decide_eq_true c24
       clear c24
       obtain ⟨y792, hy792⟩ : ∃ y_ : List (S25), y_ = (([(⟨(rd_T25 l0_1 (ji19)).f0, (rd_T25 l0_1 (ji19)).f1, (rd_T25 l0_1 (ji19)).f2, (rd_T25 l0_1 (ji19)).f3⟩ : S25)] : List (S25))) := ⟨_, rfl⟩
       replace H : (if t788.length + y792.length < 2932031007402 then (some (t778, t785, (t788 ++ y792), true)) else (none)) = some (r1, r2, r3, r4) := by first | (rw [hy792]; with_reducible exact H) | (have H2_ := (Option.bind_some _ _).symm.trans H; rw [hy792]; with_reducible exact H2_) | (have H2_ := (Option.bind_some _ _).symm.trans H; with_reducible exact H2_) | with_reducible exact H | (rw [hy792]; exact H) | exact H
       have Ny792 := Aside0.mk hy792
       clear hy792
       by_cases c25 : t788.length + y792.length < 2932031007402
       ·rw [if_pos c25] at H
        have LMc25 := Aside0.mk c25
        clear c25
        obtain ⟨y795, hy795⟩ : ∃ y_ : List (S25), y_ = (t788 ++ y792) := ⟨_, rfl⟩
        replace H : (some (t778, t785, y795, true)) = some (r1, r2, r3, r4) := by first | (rw [hy795]; with_reducible exact H) | (have H2_ := (Option.bind_some _ _).symm.trans H; rw [hy795]; with_reducible exact H2_) | (have H2_ := (Option.bind_some _ _).symm.trans H; with_reducible exact H2_) | with_reducible exact H | (rw [hy795]; exact H) | exact H
        have Ny795 := Aside0.mk hy795
        clear hy795
        simp only [Option.some.injEq, Prod.mk.injEq] at H
        obtain ⟨rfl, rfl, rfl, rfl⟩ := H
        try go_wp2
        have n0_ := Aside0.mk (blk_drew BK775.out)
        have n1_ := Aside0.mk (blk_drew BK776.out)
        have n2_ := Aside0.mk (below_drew1 HB.out)
        clear BK775
        clear BK776
        clear HB
        have BK775 := n0_
        have BK776 := n1_
        have HB := n2_
        clear n0_ n1_ n2_
        have q27 : ((ji19) : Int) ≤ ((l0_1.length : Int) : Int) := of_decide_eq_true (by first | (with_reducible assumption) | assumption)
        obtain ⟨i027, hi027, _, hsz27, _⟩ := info_parts info25
        have hroom27 : l0_1.length ≤ c0_1 := HC0_1.out
        have hC27 : Kd.C k25 _ A0_1 l0_1.length l0_1 := HR0_1.out
        have hcut27 := cut_to (P := Try.prog) 33 25 .i64 Try.underlying33 hi027 A0_1 l0_1.length c0_1 (ji19) (of_decide_eq_true (by first | (with_reducible assumption) | assumption)) q27 hroom27
        have hr27 := Kd.C_take (m := ((ji19) : Int).toNat) hC27 (by omega)
        have hy27 : y781.length = ((ji19) : Int).toNat := (by rw [Ny781.out, List.length_take]; omega)
        rw [← Ny781.out] at hr27
        rw [← hy27] at hcut27
        have HR784 := Aside0.mk hr27
        have HC784 := Aside0.mk (show y781.length ≤ c0_1 from by omega)
        clear hr27 hC27 hroom27 hi027 hsz27
        have KY27 := Aside0.mk hy27
        clear hy27
        replace q27 := eq_true q27
        have p791 : 0 ≤ ((ji19) : Int) := of_decide_eq_true (by first | (with_reducible assumption) | assumption)
        have q791 : (ji19) < (l0_1.length : Int) := of_decide_eq_true (by first | (with_reducible assumption) | assumption)
        obtain ⟨ad791, e791, hx791_0, hx791_1, hx791_2, hx791_3⟩ := at_T25 HR0_1.out (ji19) p791 q791
        have hw791_3 := hx791_3
        have hw791_2 := hx791_2
        have hw791_1 := hx791_1
        have hw791_0 := hx791_0
        cases e791
        replace hx791_0 := (HB.out.cell (World.block_lt_of_cell? w _ hx791_0)).trans hx791_0
        replace hx791_1 := (HB.out.cell (World.block_lt_of_cell? w _ hx791_1)).trans hx791_1
        replace hx791_2 := (HB.out.cell (World.block_lt_of_cell? w _ hx791_2)).trans hx791_2
        replace hx791_3 := (HB.out.cell (World.block_lt_of_cell? w _ hx791_3)).trans hx791_3
        replace p791 := eq_true p791
        replace q791 := eq_true q791
        refine start_ (n := 21) (S := fun w' => w'.cell? ⟨gb775, 0, none⟩ = some (.slice A0_0 l0_0.length c0_0) ∧ w'.cell? ⟨gb775, 1, none⟩ = some (.slice (some ad791) l0_1.length c0_1) ∧ w'.cell? ⟨gb775, 2, none⟩ = some (.slice A0_2 l0_2.length c0_2) ∧ w'.cell? (ad791.add (((ji19)).toNat * 4)) = some (.int .i64 ((rd_T25 l0_1 (ji19)).f0)) ∧ w'.cell? ⟨(ad791.add (((ji19)).toNat * 4)).block, (ad791.add (((ji19)).toNat * 4)).off + 1, none⟩ = some (.int .i64 ((rd_T25 l0_1 (ji19)).f1)) ∧ w'.cell? ⟨(ad791.add (((ji19)).toNat * 4)).block, (ad791.add (((ji19)).toNat * 4)).off + 2, none⟩ = some (.string ((rd_T25 l0_1 (ji19)).f2)) ∧ w'.cell? ⟨(ad791.add (((ji19)).toNat * 4)).block, (ad791.add (((ji19)).toNat * 4)).off + 3, none⟩ = some (.string ((rd_T25 l0_1 (ji19)).f3))) (ds := []) #[false, false, false, false, false, false, false, false, false, false, false, false, false, false, false, false, false, false, false, false, false] (by kernel_rfl) rfl rfl ⟨(blk_cell BK775.out 0).trans rfl, (blk_cell BK775.out 1).trans rfl, (blk_cell BK775.out 2).trans rfl, ((HB.out.cell (World.block_lt_of_cell? w _ hw791_0)).trans hw791_0), ((HB.out.cell (World.block_lt_of_cell? w _ hw791_1)).trans hw791_1), ((HB.out.cell (World.block_lt_of_cell? w _ hw791_2)).trans hw791_2), ((HB.out.cell (World.block_lt_of_cell? w _ hw791_3)).trans hw791_3)⟩ (fun hHeld => ?_); refine with_tabW impl_UndoEdit.tab4 impl_UndoEdit.bits4 (fun HT_ HW_ => ?_)
        generalize wc.drew = w26 at BK775 BK776 HB HR784 hx791_0 hx791_1 hx791_2 hx791_3 hHeld ⊢
        refine pure_ (i := 0) (N := some 17) (v := ?_) (a' := ?_) #[true, false, false, false, false, false, false, false, false, false, false, false, false, false, false, false, false, false, false, false, false] rfl rfl (any_of HT_.out (by kernel_rfl)) (fun _ _ _ h => h) (Or.inl ⟨by rfl, ?_⟩) ?_ ?_
        rotate_left
        ·intro w'
         go_simp
         with_reducible rfl
        rotate_left
        ·simp only [Act.put, List.setIfInBounds_toArray, List.set_cons_zero, List.set_cons_succ, i64_w, i32_w]
         rfl
        refine pure_ (i := 3) (N := some 20) (v := ?_) (a' := ?_) #[true, false, false, true, false, false, false, false, false, false, false, false, false, false, false, false, false, false, false, false, false] rfl rfl (any_of HT_.out (by kernel_rfl)) (fun _ _ _ h => h) (Or.inl ⟨by rfl, ?_⟩) ?_ ?_
        rotate_left
        ·intro w'
         go_simp
         with_reducible rfl
        rotate_left
        ·simp only [Act.put, List.setIfInBounds_toArray, List.set_cons_zero, List.set_cons_succ, i64_w, i32_w]
         rfl
        refine pure_ (i := 5) (N := some 22) (v := ?_) (a' := ?_) #[true, false, false, true, false, true, false, false, false, false, false, false, false, false, false, false, false, false, false, false, false] rfl rfl (any_of HT_.out (by kernel_rfl)) (fun _ _ _ h => h) (Or.inl ⟨by rfl, ?_⟩) ?_ ?_
        rotate_left
        ·intro w'
         go_simp
         with_reducible rfl
        rotate_left
        ·simp only [Act.put, List.setIfInBounds_toArray, List.set_cons_zero, List.set_cons_succ, i64_w, i32_w]
         rfl
        refine pure_ (i := 8) (N := some 25) (v := ?_) (a' := ?_) #[true, false, false, true, false, true, false, false, true, false, false, false, false, false, false, false, false, false, false, false, false] rfl rfl (any_of HT_.out (by kernel_rfl)) (fun _ _ _ h => h) (Or.inl ⟨by rfl, ?_⟩) ?_ ?_
        rotate_left
        ·intro w'
         go_simp
         with_reducible rfl
        rotate_left
        ·simp only [Act.put, List.setIfInBounds_toArray, List.set_cons_zero, List.set_cons_succ, i64_w, i32_w]
         rfl
        refine pure_ (i := 11) (N := some 28) (v := ?_) (a' := ?_) #[true, false, false, true, false, true, false, false, true, false, false, true, false, false, false, false, false, false, false, false, false] rfl rfl (any_of HT_.out (by kernel_rfl)) (fun _ _ _ h => h) (Or.inl ⟨by rfl, ?_⟩) ?_ ?_
        rotate_left
        ·intro w'
         go_simp
         with_reducible rfl
        rotate_left
        ·simp only [Act.put, List.setIfInBounds_toArray, List.set_cons_zero, List.set_cons_succ, i64_w, i32_w]
         rfl
        refine pure_ (i := 13) (N := some 30) (v := ?_) (a' := ?_) #[true, false, false, true, false, true, false, false, true, false, false, true, false, true, false, false, false, false, false, false, false] rfl rfl (any_of HT_.out (by kernel_rfl)) (fun _ _ _ h => h) (Or.inl ⟨by rfl, ?_⟩) ?_ ?_
        rotate_left
        ·intro w'
         go_simp
         with_reducible rfl
        rotate_left
        ·simp only [Act.put, List.setIfInBounds_toArray, List.set_cons_zero, List.set_cons_succ, i64_w, i32_w]
         rfl
        refine take_ (i := 1) (N := some 18) (v := ?_) (a' := ?_) #[true, true, false, true, false, true, false, false, true, false, false, true, false, true, false, false, false, false, false, false, false] rfl rfl (take_ofW HT_.out HW_.out (by kernel_rfl)) (fun _ _ _ h => h) (Or.inl ⟨by rfl, ?_⟩) hHeld ?_ ?_
        rotate_left
        ·rintro w' ⟨s0, s1, s2, s3, s4, s5, s6⟩
         go_simp
         with_reducible rfl
        rotate_left
        ·simp only [Act.put, List.setIfInBounds_toArray, List.set_cons_zero, List.set_cons_succ, i64_w, i32_w]
         rfl
        refine take_ (i := 4) (N := some 21) (v := ?_) (a' := ?_) #[true, true, false, true, true, true, false, false, true, false, false, true, false, true, false, false, false, false, false, false, false] rfl rfl (take_ofW HT_.out HW_.out (by kernel_rfl)) (fun _ _ _ h => h) (Or.inl ⟨by rfl, ?_⟩) hHeld ?_ ?_
        rotate_left
        ·rintro w' ⟨s0, s1, s2, s3, s4, s5, s6⟩
         go_simp
         with_reducible rfl
        rotate_left
        ·simp only [Act.put, List.setIfInBounds_toArray, List.set_cons_zero, List.set_cons_succ, i64_w, i32_w]
         rfl
        refine pure_ (i := 6) (N := some 23) (v := ?_) (a' := ?_) #[true, true, false, true, true, true, true, false, true, false, false, true, false, true, false, false, false, false, false, false, false] rfl rfl (any_of HT_.out (by kernel_rfl)) (fun _ _ _ h => h) (Or.inl ⟨by rfl, ?_⟩) ?_ ?_
        rotate_left
        ·intro w'
         go_simp
         with_reducible rfl
        rotate_left
        ·simp only [Act.put, List.setIfInBounds_toArray, List.set_cons_zero, List.set_cons_succ, i64_w, i32_w]
         rfl
        refine take_ (i := 9) (N := some 26) (v := ?_) (a' := ?_) #[true, true, false, true, true, true, true, false, true, true, false, true, false, true, false, false, false, false, false, false, false] rfl rfl (take_ofW HT_.out HW_.out (by kernel_rfl)) (fun _ _ _ h => h) (Or.inl ⟨by rfl, ?_⟩) hHeld ?_ ?_
        rotate_left
        ·rintro w' ⟨s0, s1, s2, s3, s4, s5, s6⟩
         go_simp
         with_reducible rfl
        rotate_left
        ·simp only [Act.put, List.setIfInBounds_toArray, List.set_cons_zero, List.set_cons_succ, i64_w, i32_w]
         rfl
        refine take_ (i := 12) (N := some 29) (v := ?_) (a' := ?_) #[true, true, false, true, true, true, true, false, true, true, false, true, true, true, false, false, false, false, false, false, false] rfl rfl (take_ofW HT_.out HW_.out (by kernel_rfl)) (fun _ _ _ h => h) (Or.inl ⟨by rfl, ?_⟩) hHeld ?_ ?_
        rotate_left
        ·rintro w' ⟨s0, s1, s2, s3, s4, s5, s6⟩
         go_simp
         with_reducible rfl
        rotate_left
        ·simp only [Act.put, List.setIfInBounds_toArray, List.set_cons_zero, List.set_cons_succ, i64_w, i32_w]
         rfl
        refine pure_ (i := 14) (N := some 31) (v := ?_) (a' := ?_) #[true, true, false, true, true, true, true, false, true, true, false, true, true, true, true, false, false, false, false, false, false] rfl rfl (any_of HT_.out (by kernel_rfl)) (fun _ _ _ h => h) (Or.inl ⟨by rfl, ?_⟩) ?_ ?_
        rotate_left
        ·intro w'
         go_simp
         with_reducible rfl
        rotate_left
        ·simp only [Act.put, List.setIfInBounds_toArray, List.set_cons_zero, List.set_cons_succ, i64_w, i32_w]
         rfl
        refine take_ (i := 15) (N := some 32) (v := ?_) (a' := ?_) #[true, true, false, true, true, true, true, false, true, true, false, true, true, true, true, true, false, false, false, false, false] rfl rfl (take_ofW HT_.out HW_.out (by kernel_rfl)) (fun _ _ _ h => h) (Or.inl ⟨by rfl, ?_⟩) hHeld ?_ ?_
        rotate_left
        ·rintro w' ⟨s0, s1, s2, s3, s4, s5, s6⟩
         go_simp
         with_reducible rfl
        rotate_left
        ·simp only [Act.put, List.setIfInBounds_toArray, List.set_cons_zero, List.set_cons_succ, i64_w, i32_w]
         rfl
        refine join_ (σ := Value × Value × Value × Value) 4 #[true, true, true, true, true, true, true, true, true, true, true, true, true, true, true, true, true, false, false, false, false] (fun s_ => [(19, s_.1), (24, s_.2.1), (27, s_.2.2.1), (33, s_.2.2.2)]) (fun s_ w' => (w'.cell? ⟨gb775, 0, none⟩ = some (.slice A0_0 l0_0.length c0_0) ∧ w'.cell? ⟨gb775, 1, none⟩ = some (.slice (some ad791) l0_1.length c0_1) ∧ w'.cell? ⟨gb775, 2, none⟩ = some (.slice A0_2 l0_2.length c0_2) ∧ w'.cell? (ad791.add (((ji19)).toNat * 4)) = some (.int .i64 ((rd_T25 l0_1 (ji19)).f0)) ∧ w'.cell? ⟨(ad791.add (((ji19)).toNat * 4)).block, (ad791.add (((ji19)).toNat * 4)).off + 1, none⟩ = some (.int .i64 ((rd_T25 l0_1 (ji19)).f1)) ∧ w'.cell? ⟨(ad791.add (((ji19)).toNat * 4)).block, (ad791.add (((ji19)).toNat * 4)).off + 2, none⟩ = some (.string ((rd_T25 l0_1 (ji19)).f2)) ∧ w'.cell? ⟨(ad791.add (((ji19)).toNat * 4)).block, (ad791.add (((ji19)).toNat * 4)).off + 3, none⟩ = some (.string ((rd_T25 l0_1 (ji19)).f3))) ∧ (Kd.R Kd.string 9 w' w.heap.size (fun _ => True) s_.1 t778) ∧ (Kd.R k25 25 w' w.heap.size (fun k_ => some k_ ≠ (s_.2.2.1 : Value).ownBlock ∧ some k_ ≠ (s_.2.2.2 : Value).ownBlock) s_.2.1 t785) ∧ (Kd.R k25 25 w' w.heap.size (fun k_ => some k_ ≠ (s_.2.1 : Value).ownBlock ∧ some k_ ≠ (s_.2.2.2 : Value).ownBlock) s_.2.2.1 t788) ∧ (Kd.R k25 25 w' w.heap.size (fun k_ => some k_ ≠ (s_.2.1 : Value).ownBlock ∧ some k_ ≠ (s_.2.2.1 : Value).ownBlock) s_.2.2.2 y792) ∧ (w'.heap[gb775]? = some (.cells #[.slice A0_0 l0_0.length c0_0, .slice (some ad791) l0_1.length c0_1, .slice A0_2 l0_2.length c0_2] 35 (0, 0))) ∧ (w'.heap[gb776]? = some (.cells #[.slice none 0 0, .slice none 0 0, .slice none 0 0] 35 (0, 0))) ∧ (Below w.heap.size w w')) ?_ ?_
        rotate_left
        ·intro hCont
         refine two_ (i := 2) (j := 16) (Ni := some 19) (Nj := some 33) #[true, true, true, true, true, true, true, false, true, true, false, true, true, true, true, true, false, false, false, false, false] #[true, true, false, true, true, true, true, false, true, true, false, true, true, true, true, true, true, false, false, false, false] rfl rfl rfl rfl (two_of HT_.out (by kernel_rfl)) (by decide) (by decide) (fun K hK => ?_) (fun K hK => ?_)
         ·skip
          refine goes_ Try.func53 (by kernel_rfl) rfl #[.slice A0_0 l0_0.length c0_0] (by rfl) rfl rfl args_ ?_
          with_reducible refine (slices_Clone_string_string.calls _ _ l0_0 t778 _ ?side1 ?side2 A18.out).mono ?_
          (case side1 => repeat (first | exact (Kd.C_below HR0_0.out HB.out) | (with_reducible first | apply cA_ | apply cN_ | apply cD_)))
          (case side2 => exact HC0_0.out)
          rintro e w28 ⟨v779, rfl, ho0, hb⟩
          refine ⟨_, rfl, ?_⟩
          have n0_ := Aside0.mk (Kd.R_lower ho0 (below_size (bb2_ HB GE775 GE776)))
          have n1_ := Aside0.mk (lb_ BK775 hb)
          have n2_ := Aside0.mk (lb_ BK776 hb)
          have n3_ := Aside0.mk (below_step (bb2_ HB GE775 GE776) hb)
          clear BK775
          clear BK776
          clear HB
          have HO780 := n0_
          have BK775 := n1_
          have BK776 := n2_
          have HB := n3_
          clear n0_ n1_ n2_ n3_
          (try clear hb)
          (try clear hb2)
          (try clear hk)
          (try clear hi)
          (try clear ho0)
          refine hK.out _ _ ⟨(blk_cell BK775.out 0).trans rfl, (blk_cell BK775.out 1).trans rfl, (blk_cell BK775.out 2).trans rfl, ((HB.out.cell (World.block_lt_of_cell? w _ hw791_0)).trans hw791_0), ((HB.out.cell (World.block_lt_of_cell? w _ hw791_1)).trans hw791_1), ((HB.out.cell (World.block_lt_of_cell? w _ hw791_2)).trans hw791_2), ((HB.out.cell (World.block_lt_of_cell? w _ hw791_3)).trans hw791_3)⟩ (fun hHeld => ?_)
          clear hK K
          refine norm_ (a' := ?_) ?_ ?_
          rotate_left
          ·show Act.put _ (some 19) _ = _
           simp only [Act.put, List.setIfInBounds_toArray, List.set_cons_zero, List.set_cons_succ, i64_w, i32_w]
           rfl
          refine two_ (i := 7) (j := 16) (Ni := some 24) (Nj := some 33) #[true, true, true, true, true, true, true, true, true, true, false, true, true, true, true, true, false, false, false, false, false] #[true, true, true, true, true, true, true, false, true, true, false, true, true, true, true, true, true, false, false, false, false] rfl rfl rfl rfl (two_of HT_.out (by kernel_rfl)) (by decide) (by decide) (fun K hK => ?_) (fun K hK => ?_)
          ·skip
           refine goes_ Try.func69 (by kernel_rfl) rfl #[.slice (some ad791) y781.length c0_1] (by rfl) rfl rfl args_ ?_
           with_reducible refine (impl_DeskEdit_69.calls _ _ y781 t785 _ ?side1 ?side2 A22.out).mono ?_
           (case side1 => repeat (first | exact (Kd.C_below HR784.out HB.out) | (with_reducible first | apply cA_ | apply cN_ | apply cD_)))
           (case side2 => exact HC784.out)
           rintro e w29 ⟨v786, rfl, ho0, hb⟩
           refine ⟨_, rfl, ?_⟩
           have n0_ := Aside0.mk (Kd.R_below (ra_ HO780) hb)
           have n1_ := Aside0.mk (Kd.R_lower ho0 (below_size (bb2_ HB GE775 GE776)))
           have n2_ := Aside0.mk (lb_ BK775 hb)
           have n3_ := Aside0.mk (lb_ BK776 hb)
           have n4_ := Aside0.mk (below_step (bb2_ HB GE775 GE776) hb)
           clear HO780
           clear BK775
           clear BK776
           clear HB
           have HO780 := n0_
           have HO787 := n1_
           have BK775 := n2_
           have BK776 := n3_
           have HB := n4_
           clear n0_ n1_ n2_ n3_ n4_
           (try clear hb)
           (try clear hb2)
           (try clear hk)
           (try clear hi)
           (try clear ho0)
           refine hK.out _ _ ⟨(blk_cell BK775.out 0).trans rfl, (blk_cell BK775.out 1).trans rfl, (blk_cell BK775.out 2).trans rfl, ((HB.out.cell (World.block_lt_of_cell? w _ hw791_0)).trans hw791_0), ((HB.out.cell (World.block_lt_of_cell? w _ hw791_1)).trans hw791_1), ((HB.out.cell (World.block_lt_of_cell? w _ hw791_2)).trans hw791_2), ((HB.out.cell (World.block_lt_of_cell? w _ hw791_3)).trans hw791_3)⟩ (fun hHeld => ?_)
           clear hK K
           refine norm_ (a' := ?_) ?_ ?_
           rotate_left
           ·show Act.put _ (some 24) _ = _
            simp only [Act.put, List.setIfInBounds_toArray, List.set_cons_zero, List.set_cons_succ, i64_w, i32_w]
            rfl
           refine two_ (i := 10) (j := 16) (Ni := some 27) (Nj := some 33) #[true, true, true, true, true, true, true, true, true, true, true, true, true, true, true, true, false, false, false, false, false] #[true, true, true, true, true, true, true, true, true, true, false, true, true, true, true, true, true, false, false, false, false] rfl rfl rfl rfl (two_of HT_.out (by kernel_rfl)) (by decide) (by decide) (fun K hK => ?_) (fun K hK => ?_)
           ·skip
            refine goes_ Try.func69 (by kernel_rfl) rfl #[.slice A0_2 l0_2.length c0_2] (by rfl) rfl rfl args_ ?_
            with_reducible refine (impl_DeskEdit_69.calls _ _ l0_2 t788 _ ?side1 ?side2 A23.out).mono ?_
            (case side1 => repeat (first | exact (Kd.C_below HR0_2.out HB.out) | (with_reducible first | apply cA_ | apply cN_ | apply cD_)))
            (case side2 => exact HC0_2.out)
            rintro e w30 ⟨v789, rfl, ho0, hb⟩
            refine ⟨_, rfl, ?_⟩
            have n0_ := Aside0.mk (Kd.R_below (ra_ HO780) hb)
            have n1_ := Aside0.mk (Kd.R_elder' (ra_ HO787) (Kd.R_base ho0) hb)
            have n2_ := Aside0.mk (Kd.R_lower (Kd.R_new' ho0 (Kd.R_lt (ra_ HO787))) (below_size (bb2_ HB GE775 GE776)))
            have n3_ := Aside0.mk (lb_ BK775 hb)
            have n4_ := Aside0.mk (lb_ BK776 hb)
            have n5_ := Aside0.mk (below_step (bb2_ HB GE775 GE776) hb)
            clear HO780
            clear HO787
            clear BK775
            clear BK776
            clear HB
            have HO780 := n0_
            have HO787 := n1_
            have HO790 := n2_
            have BK775 := n3_
            have BK776 := n4_
            have HB := n5_
            clear n0_ n1_ n2_ n3_ n4_ n5_
            (try clear hb)
            (try clear hb2)
            (try clear hk)
            (try clear hi)
            (try clear ho0)
            refine hK.out _ _ ⟨(blk_cell BK775.out 0).trans rfl, (blk_cell BK775.out 1).trans rfl, (blk_cell BK775.out 2).trans rfl, ((HB.out.cell (World.block_lt_of_cell? w _ hw791_0)).trans hw791_0), ((HB.out.cell (World.block_lt_of_cell? w _ hw791_1)).trans hw791_1), ((HB.out.cell (World.block_lt_of_cell? w _ hw791_2)).trans hw791_2), ((HB.out.cell (World.block_lt_of_cell? w _ hw791_3)).trans hw791_3)⟩ (fun hHeld => ?_)
            clear hK K
            refine norm_ (a' := ?_) ?_ ?_
            rotate_left
            ·show Act.put _ (some 27) _ = _
             simp only [Act.put, List.setIfInBounds_toArray, List.set_cons_zero, List.set_cons_succ, i64_w, i32_w]
             rfl
            refine one_ (i := 16) (N := some 33) #[true, true, true, true, true, true, true, true, true, true, true, true, true, true, true, true, true, false, false, false, false] rfl rfl (one_of HT_.out (by kernel_rfl)) (by decide) (fun K hK => ?_)
            refine Kd.R_lit_step k25 _ 25 ?hg (N := 33) ?hd (xs := ([(⟨(rd_T25 l0_1 (ji19)).f0, (rd_T25 l0_1 (ji19)).f1, (rd_T25 l0_1 (ji19)).f2, (rd_T25 l0_1 (ji19)).f3⟩ : S25)] : List (S25))) (inner := [.int .i64 ((rd_T25 l0_1 (ji19)).f0), .int .i64 ((rd_T25 l0_1 (ji19)).f1), .string ((rd_T25 l0_1 (ji19)).f2), .string ((rd_T25 l0_1 (ji19)).f3)]) (ok := fun _ => True) (okp := fun _ => True) ?hr ?hp (fun _ hk => hk) trivial (Below.refl _ _) (Nat.le_refl _) (by simp) ?_; (case hd => rfl); (case hg => rfl); (case hr => first | (go_simp; done) | (go_simp; rfl)); (case hp => exact (Reps.c4 (show Kd.M k25 _ _ _ (⟨(rd_T25 l0_1 (ji19)).f0, (rd_T25 l0_1 (ji19)).f1, (rd_T25 l0_1 (ji19)).f2, (rd_T25 l0_1 (ji19)).f3⟩ : S25) [.int .i64 ((rd_T25 l0_1 (ji19)).f0), .int .i64 ((rd_T25 l0_1 (ji19)).f1), .string ((rd_T25 l0_1 (ji19)).f2), .string ((rd_T25 l0_1 (ji19)).f3)] from (k25_mkM _ _ _ (⟨(rd_T25 l0_1 (ji19)).f0, (rd_T25 l0_1 (ji19)).f1, (rd_T25 l0_1 (ji19)).f2, (rd_T25 l0_1 (ji19)).f3⟩ : S25) )) (Reps.none _ _)))
            intro v793 w31 ho32 hb hg_ hnew_
            clear hg_ hnew_
            (first | rw [← Ny792.out] at ho32 | (simp only [Int.reduceToNat] at ho32; rw [← Ny792.out] at ho32))
            have n0_ := Aside0.mk (Kd.R_below (ra_ HO780) hb)
            have n1_ := Aside0.mk (Kd.R_elder' (ra_ HO787) (Kd.R_base ho32) hb)
            have n2_ := Aside0.mk (Kd.R_elder' (ra_ HO790) (Kd.R_base ho32) hb)
            have n3_ := Aside0.mk (Kd.R_lower (Kd.R_new' (Kd.R_new' ho32 (Kd.R_lt (ra_ HO787))) (Kd.R_lt (ra_ HO790))) (below_size (bb2_ HB GE775 GE776)))
            have n4_ := Aside0.mk (lb_ BK775 hb)
            have n5_ := Aside0.mk (lb_ BK776 hb)
            have n6_ := Aside0.mk (below_step (bb2_ HB GE775 GE776) hb)
            clear HO780
            clear HO787
            clear HO790
            clear BK775
            clear BK776
            clear HB
            have HO780 := n0_
            have HO787 := n1_
            have HO790 := n2_
            have HO794 := n3_
            have BK775 := n4_
            have BK776 := n5_
            have HB := n6_
            clear n0_ n1_ n2_ n3_ n4_ n5_ n6_
            clear hb ho32
            refine hK.out _ _ ⟨(blk_cell BK775.out 0).trans rfl, (blk_cell BK775.out 1).trans rfl, (blk_cell BK775.out 2).trans rfl, ((HB.out.cell (World.block_lt_of_cell? w _ hw791_0)).trans hw791_0), ((HB.out.cell (World.block_lt_of_cell? w _ hw791_1)).trans hw791_1), ((HB.out.cell (World.block_lt_of_cell? w _ hw791_2)).trans hw791_2), ((HB.out.cell (World.block_lt_of_cell? w _ hw791_3)).trans hw791_3)⟩ (fun hHeld => ?_)
            clear hK K
            refine norm_ (a' := ?_) ?_ ?_
            rotate_left
            ·show Act.put _ (some 33) _ = _
             simp only [Act.put, List.setIfInBounds_toArray, List.set_cons_zero, List.set_cons_succ, i64_w, i32_w]
             rfl
            exact norm_ (by simp only [putAll, Act.put, List.setIfInBounds_toArray, List.set_cons_zero, List.set_cons_succ]) (hCont (v779, v786, v789, v793) _ ⟨hHeld, (ra_ HO780), (by (with_reducible repeat (first | apply rA_ | apply rN_ | apply rD_)); exact Kd.R_mono HO787.out (fun _ hk => ⟨hk.1.2, hk.2⟩)), (by (with_reducible repeat (first | apply rA_ | apply rN_ | apply rD_)); exact Kd.R_mono HO790.out (fun _ hk => ⟨hk.1.2, hk.2⟩)), (by (with_reducible repeat (first | apply rA_ | apply rN_ | apply rD_)); exact Kd.R_mono HO794.out (fun _ hk => ⟨hk.1.2, hk.2⟩)), (la_ BK775), (la_ BK776), (bb2_ HB GE775 GE776)⟩)
           ·skip
            refine Kd.R_lit_step k25 _ 25 ?hg (N := 33) ?hd (xs := ([(⟨(rd_T25 l0_1 (ji19)).f0, (rd_T25 l0_1 (ji19)).f1, (rd_T25 l0_1 (ji19)).f2, (rd_T25 l0_1 (ji19)).f3⟩ : S25)] : List (S25))) (inner := [.int .i64 ((rd_T25 l0_1 (ji19)).f0), .int .i64 ((rd_T25 l0_1 (ji19)).f1), .string ((rd_T25 l0_1 (ji19)).f2), .string ((rd_T25 l0_1 (ji19)).f3)]) (ok := fun _ => True) (okp := fun _ => True) ?hr ?hp (fun _ hk => hk) trivial (Below.refl _ _) (Nat.le_refl _) (by simp) ?_; (case hd => rfl); (case hg => rfl); (case hr => first | (go_simp; done) | (go_simp; rfl)); (case hp => exact (Reps.c4 (show Kd.M k25 _ _ _ (⟨(rd_T25 l0_1 (ji19)).f0, (rd_T25 l0_1 (ji19)).f1, (rd_T25 l0_1 (ji19)).f2, (rd_T25 l0_1 (ji19)).f3⟩ : S25) [.int .i64 ((rd_T25 l0_1 (ji19)).f0), .int .i64 ((rd_T25 l0_1 (ji19)).f1), .string ((rd_T25 l0_1 (ji19)).f2), .string ((rd_T25 l0_1 (ji19)).f3)] from (k25_mkM _ _ _ (⟨(rd_T25 l0_1 (ji19)).f0, (rd_T25 l0_1 (ji19)).f1, (rd_T25 l0_1 (ji19)).f2, (rd_T25 l0_1 (ji19)).f3⟩ : S25) )) (Reps.none _ _)))
            intro v793 w30 ho31 hb hg_ hnew_
            clear hg_ hnew_
            (first | rw [← Ny792.out] at ho31 | (simp only [Int.reduceToNat] at ho31; rw [← Ny792.out] at ho31))
            have n0_ := Aside0.mk (Kd.R_below (ra_ HO780) hb)
            have n1_ := Aside0.mk (Kd.R_elder' (ra_ HO787) (Kd.R_base ho31) hb)
            have n2_ := Aside0.mk (Kd.R_lower (Kd.R_new' ho31 (Kd.R_lt (ra_ HO787))) (below_size (bb2_ HB GE775 GE776)))
            have n3_ := Aside0.mk (lb_ BK775 hb)
            have n4_ := Aside0.mk (lb_ BK776 hb)
            have n5_ := Aside0.mk (below_step (bb2_ HB GE775 GE776) hb)
            clear HO780
            clear HO787
            clear BK775
            clear BK776
            clear HB
            have HO780 := n0_
            have HO787 := n1_
            have HO794 := n2_
            have BK775 := n3_
            have BK776 := n4_
            have HB := n5_
            clear n0_ n1_ n2_ n3_ n4_ n5_
            clear hb ho31
            refine hK.out _ _ ⟨(blk_cell BK775.out 0).trans rfl, (blk_cell BK775.out 1).trans rfl, (blk_cell BK775.out 2).trans rfl, ((HB.out.cell (World.block_lt_of_cell? w _ hw791_0)).trans hw791_0), ((HB.out.cell (World.block_lt_of_cell? w _ hw791_1)).trans hw791_1), ((HB.out.cell (World.block_lt_of_cell? w _ hw791_2)).trans hw791_2), ((HB.out.cell (World.block_lt_of_cell? w _ hw791_3)).trans hw791_3)⟩ (fun hHeld => ?_)
            clear hK K
            refine norm_ (a' := ?_) ?_ ?_
            rotate_left
            ·show Act.put _ (some 33) _ = _
             simp only [Act.put, List.setIfInBounds_toArray, List.set_cons_zero, List.set_cons_succ, i64_w, i32_w]
             rfl
            refine one_ (i := 10) (N := some 27) #[true, true, true, true, true, true, true, true, true, true, true, true, true, true, true, true, true, false, false, false, false] rfl rfl (one_of HT_.out (by kernel_rfl)) (by decide) (fun K hK => ?_)
            refine goes_ Try.func69 (by kernel_rfl) rfl #[.slice A0_2 l0_2.length c0_2] (by rfl) rfl rfl args_ ?_
            with_reducible refine (impl_DeskEdit_69.calls _ _ l0_2 t788 _ ?side1 ?side2 A23.out).mono ?_
            (case side1 => repeat (first | exact (Kd.C_below HR0_2.out HB.out) | (with_reducible first | apply cA_ | apply cN_ | apply cD_)))
            (case side2 => exact HC0_2.out)
            rintro e w32 ⟨v789, rfl, ho0, hb⟩
            refine ⟨_, rfl, ?_⟩
            have n0_ := Aside0.mk (Kd.R_below (ra_ HO780) hb)
            have n1_ := Aside0.mk (Kd.R_elder' (ra_ HO787) (Kd.R_base ho0) hb)
            have n2_ := Aside0.mk (Kd.R_elder' (ra_ HO794) (Kd.R_base ho0) hb)
            have n3_ := Aside0.mk (Kd.R_lower (Kd.R_new' (Kd.R_new' ho0 (Kd.R_lt (ra_ HO787))) (Kd.R_lt (ra_ HO794))) (below_size (bb2_ HB GE775 GE776)))
            have n4_ := Aside0.mk (lb_ BK775 hb)
            have n5_ := Aside0.mk (lb_ BK776 hb)
            have n6_ := Aside0.mk (below_step (bb2_ HB GE775 GE776) hb)
            clear HO780
            clear HO787
            clear HO794
            clear BK775
            clear BK776
            clear HB
            have HO780 := n0_
            have HO787 := n1_
            have HO794 := n2_
            have HO790 := n3_
            have BK775 := n4_
            have BK776 := n5_
            have HB := n6_
            clear n0_ n1_ n2_ n3_ n4_ n5_ n6_
            (try clear hb)
            (try clear hb2)
            (try clear hk)
            (try clear hi)
            (try clear ho0)
            refine hK.out _ _ ⟨(blk_cell BK775.out 0).trans rfl, (blk_cell BK775.out 1).trans rfl, (blk_cell BK775.out 2).trans rfl, ((HB.out.cell (World.block_lt_of_cell? w _ hw791_0)).trans hw791_0), ((HB.out.cell (World.block_lt_of_cell? w _ hw791_1)).trans hw791_1), ((HB.out.cell (World.block_lt_of_cell? w _ hw791_2)).trans hw791_2), ((HB.out.cell (World.block_lt_of_cell? w _ hw791_3)).trans hw791_3)⟩ (fun hHeld => ?_)
            clear hK K
            refine norm_ (a' := ?_) ?_ ?_
            rotate_left
            ·show Act.put _ (some 27) _ = _
             simp only [Act.put, List.setIfInBounds_toArray, List.set_cons_zero, List.set_cons_succ, i64_w, i32_w]
             rfl
            exact norm_ (by simp only [putAll, Act.put, List.setIfInBounds_toArray, List.set_cons_zero, List.set_cons_succ]) (hCont (v779, v786, v789, v793) _ ⟨hHeld, (ra_ HO780), (by (with_reducible repeat (first | apply rA_ | apply rN_ | apply rD_)); exact Kd.R_mono HO787.out (fun _ hk => ⟨hk.2, hk.1.2⟩)), (by (with_reducible repeat (first | apply rA_ | apply rN_ | apply rD_)); exact Kd.R_mono HO790.out (fun _ hk => ⟨hk.1.2, hk.2⟩)), (by (with_reducible repeat (first | apply rA_ | apply rN_ | apply rD_)); exact Kd.R_mono HO794.out (fun _ hk => ⟨hk.1.2, hk.2⟩)), (la_ BK775), (la_ BK776), (bb2_ HB GE775 GE776)⟩)
          ·skip
           refine Kd.R_lit_step k25 _ 25 ?hg (N := 33) ?hd (xs := ([(⟨(rd_T25 l0_1 (ji19)).f0, (rd_T25 l0_1 (ji19)).f1, (rd_T25 l0_1 (ji19)).f2, (rd_T25 l0_1 (ji19)).f3⟩ : S25)] : List (S25))) (inner := [.int .i64 ((rd_T25 l0_1 (ji19)).f0), .int .i64 ((rd_T25 l0_1 (ji19)).f1), .string ((rd_T25 l0_1 (ji19)).f2), .string ((rd_T25 l0_1 (ji19)).f3)]) (ok := fun _ => True) (okp := fun _ => True) ?hr ?hp (fun _ hk => hk) trivial (Below.refl _ _) (Nat.le_refl _) (by simp) ?_; (case hd => rfl); (case hg => rfl); (case hr => first | (go_simp; done) | (go_simp; rfl)); (case hp => exact (Reps.c4 (show Kd.M k25 _ _ _ (⟨(rd_T25 l0_1 (ji19)).f0, (rd_T25 l0_1 (ji19)).f1, (rd_T25 l0_1 (ji19)).f2, (rd_T25 l0_1 (ji19)).f3⟩ : S25) [.int .i64 ((rd_T25 l0_1 (ji19)).f0), .int .i64 ((rd_T25 l0_1 (ji19)).f1), .string ((rd_T25 l0_1 (ji19)).f2), .string ((rd_T25 l0_1 (ji19)).f3)] from (k25_mkM _ _ _ (⟨(rd_T25 l0_1 (ji19)).f0, (rd_T25 l0_1 (ji19)).f1, (rd_T25 l0_1 (ji19)).f2, (rd_T25 l0_1 (ji19)).f3⟩ : S25) )) (Reps.none _ _)))
           intro v793 w29 ho30 hb hg_ hnew_
           clear hg_ hnew_
           (first | rw [← Ny792.out] at ho30 | (simp only [Int.reduceToNat] at ho30; rw [← Ny792.out] at ho30))
           have n0_ := Aside0.mk (Kd.R_below (ra_ HO780) hb)
           have n1_ := Aside0.mk (Kd.R_lower ho30 (below_size (bb2_ HB GE775 GE776)))
           have n2_ := Aside0.mk (lb_ BK775 hb)
           have n3_ := Aside0.mk (lb_ BK776 hb)
           have n4_ := Aside0.mk (below_step (bb2_ HB GE775 GE776) hb)
           clear HO780
           clear BK775
           clear BK776
           clear HB
           have HO780 := n0_
           have HO794 := n1_
           have BK775 := n2_
           have BK776 := n3_
           have HB := n4_
           clear n0_ n1_ n2_ n3_ n4_
           clear hb ho30
           refine hK.out _ _ ⟨(blk_cell BK775.out 0).trans rfl, (blk_cell BK775.out 1).trans rfl, (blk_cell BK775.out 2).trans rfl, ((HB.out.cell (World.block_lt_of_cell? w _ hw791_0)).trans hw791_0), ((HB.out.cell (World.block_lt_of_cell? w _ hw791_1)).trans hw791_1), ((HB.out.cell (World.block_lt_of_cell? w _ hw791_2)).trans hw791_2), ((HB.out.cell (World.block_lt_of_cell? w _ hw791_3)).trans hw791_3)⟩ (fun hHeld => ?_)
           clear hK K
           refine norm_ (a' := ?_) ?_ ?_
           rotate_left
           ·show Act.put _ (some 33) _ = _
            simp only [Act.put, List.setIfInBounds_toArray, List.set_cons_zero, List.set_cons_succ, i64_w, i32_w]
            rfl
           refine one_ (i := 7) (N := some 24) #[true, true, true, true, true, true, true, true, true, true, false, true, true, true, true, true, true, false, false, false, false] rfl rfl (one_of HT_.out (by kernel_rfl)) (by decide) (fun K hK => ?_)
           refine goes_ Try.func69 (by kernel_rfl) rfl #[.slice (some ad791) y781.length c0_1] (by rfl) rfl rfl args_ ?_
           with_reducible refine (impl_DeskEdit_69.calls _ _ y781 t785 _ ?side1 ?side2 A22.out).mono ?_
           (case side1 => repeat (first | exact (Kd.C_below HR784.out HB.out) | (with_reducible first | apply cA_ | apply cN_ | apply cD_)))
           (case side2 => exact HC784.out)
           rintro e w31 ⟨v786, rfl, ho0, hb⟩
           refine ⟨_, rfl, ?_⟩
           have n0_ := Aside0.mk (Kd.R_below (ra_ HO780) hb)
           have n1_ := Aside0.mk (Kd.R_elder' (ra_ HO794) (Kd.R_base ho0) hb)
           have n2_ := Aside0.mk (Kd.R_lower (Kd.R_new' ho0 (Kd.R_lt (ra_ HO794))) (below_size (bb2_ HB GE775 GE776)))
           have n3_ := Aside0.mk (lb_ BK775 hb)
           have n4_ := Aside0.mk (lb_ BK776 hb)
           have n5_ := Aside0.mk (below_step (bb2_ HB GE775 GE776) hb)
           clear HO780
           clear HO794
           clear BK775
           clear BK776
           clear HB
           have HO780 := n0_
           have HO794 := n1_
           have HO787 := n2_
           have BK775 := n3_
           have BK776 := n4_
           have HB := n5_
           clear n0_ n1_ n2_ n3_ n4_ n5_
           (try clear hb)
           (try clear hb2)
           (try clear hk)
           (try clear hi)
           (try clear ho0)
           refine hK.out _ _ ⟨(blk_cell BK775.out 0).trans rfl, (blk_cell BK775.out 1).trans rfl, (blk_cell BK775.out 2).trans rfl, ((HB.out.cell (World.block_lt_of_cell? w _ hw791_0)).trans hw791_0), ((HB.out.cell (World.block_lt_of_cell? w _ hw791_1)).trans hw791_1), ((HB.out.cell (World.block_lt_of_cell? w _ hw791_2)).trans hw791_2), ((HB.out.cell (World.block_lt_of_cell? w _ hw791_3)).trans hw791_3)⟩ (fun hHeld => ?_)
           clear hK K
           refine norm_ (a' := ?_) ?_ ?_
           rotate_left
           ·show Act.put _ (some 24) _ = _
            simp only [Act.put, List.setIfInBounds_toArray, List.set_cons_zero, List.set_cons_succ, i64_w, i32_w]
            rfl
           refine one_ (i := 10) (N := some 27) #[true, true, true, true, true, true, true, true, true, true, true, true, true, true, true, true, true, false, false, false, false] rfl rfl (one_of HT_.out (by kernel_rfl)) (by decide) (fun K hK => ?_)
           refine goes_ Try.func69 (by kernel_rfl) rfl #[.slice A0_2 l0_2.length c0_2] (by rfl) rfl rfl args_ ?_
           with_reducible refine (impl_DeskEdit_69.calls _ _ l0_2 t788 _ ?side1 ?side2 A23.out).mono ?_
           (case side1 => repeat (first | exact (Kd.C_below HR0_2.out HB.out) | (with_reducible first | apply cA_ | apply cN_ | apply cD_)))
           (case side2 => exact HC0_2.out)
           rintro e w32 ⟨v789, rfl, ho0, hb⟩
           refine ⟨_, rfl, ?_⟩
           have n0_ := Aside0.mk (Kd.R_below (ra_ HO780) hb)
           have n1_ := Aside0.mk (Kd.R_elder' (ra_ HO794) (Kd.R_base ho0) hb)
           have n2_ := Aside0.mk (Kd.R_elder' (ra_ HO787) (Kd.R_base ho0) hb)
           have n3_ := Aside0.mk (Kd.R_lower (Kd.R_new' (Kd.R_new' ho0 (Kd.R_lt (ra_ HO794))) (Kd.R_lt (ra_ HO787))) (below_size (bb2_ HB GE775 GE776)))
           have n4_ := Aside0.mk (lb_ BK775 hb)
           have n5_ := Aside0.mk (lb_ BK776 hb)
           have n6_ := Aside0.mk (below_step (bb2_ HB GE775 GE776) hb)
           clear HO780
           clear HO794
           clear HO787
           clear BK775
           clear BK776
           clear HB
           have HO780 := n0_
           have HO794 := n1_
           have HO787 := n2_
           have HO790 := n3_
           have BK775 := n4_
           have BK776 := n5_
           have HB := n6_
           clear n0_ n1_ n2_ n3_ n4_ n5_ n6_
           (try clear hb)
           (try clear hb2)
           (try clear hk)
           (try clear hi)
           (try clear ho0)
           refine hK.out _ _ ⟨(blk_cell BK775.out 0).trans rfl, (blk_cell BK775.out 1).trans rfl, (blk_cell BK775.out 2).trans rfl, ((HB.out.cell (World.block_lt_of_cell? w _ hw791_0)).trans hw791_0), ((HB.out.cell (World.block_lt_of_cell? w _ hw791_1)).trans hw791_1), ((HB.out.cell (World.block_lt_of_cell? w _ hw791_2)).trans hw791_2), ((HB.out.cell (World.block_lt_of_cell? w _ hw791_3)).trans hw791_3)⟩ (fun hHeld => ?_)
           clear hK K
           refine norm_ (a' := ?_) ?_ ?_
           rotate_left
           ·show Act.put _ (some 27) _ = _
            simp only [Act.put, List.setIfInBounds_toArray, List.set_cons_zero, List.set_cons_succ, i64_w, i32_w]
            rfl
           exact norm_ (by simp only [putAll, Act.put, List.setIfInBounds_toArray, List.set_cons_zero, List.set_cons_succ]) (hCont (v779, v786, v789, v793) _ ⟨hHeld, (ra_ HO780), (by (with_reducible repeat (first | apply rA_ | apply rN_ | apply rD_)); exact Kd.R_mono HO787.out (fun _ hk => ⟨hk.2, hk.1.2⟩)), (by (with_reducible repeat (first | apply rA_ | apply rN_ | apply rD_)); exact Kd.R_mono HO790.out (fun _ hk => ⟨hk.2, hk.1.2⟩)), (by (with_reducible repeat (first | apply rA_ | apply rN_ | apply rD_)); exact Kd.R_mono HO794.out (fun _ hk => ⟨hk.1.2, hk.2⟩)), (la_ BK775), (la_ BK776), (bb2_ HB GE775 GE776)⟩)
         ·skip
          refine Kd.R_lit_step k25 _ 25 ?hg (N := 33) ?hd (xs := ([(⟨(rd_T25 l0_1 (ji19)).f0, (rd_T25 l0_1 (ji19)).f1, (rd_T25 l0_1 (ji19)).f2, (rd_T25 l0_1 (ji19)).f3⟩ : S25)] : List (S25))) (inner := [.int .i64 ((rd_T25 l0_1 (ji19)).f0), .int .i64 ((rd_T25 l0_1 (ji19)).f1), .string ((rd_T25 l0_1 (ji19)).f2), .string ((rd_T25 l0_1 (ji19)).f3)]) (ok := fun _ => True) (okp := fun _ => True) ?hr ?hp (fun _ hk => hk) trivial (Below.refl _ _) (Nat.le_refl _) (by simp) ?_; (case hd => rfl); (case hg => rfl); (case hr => first | (go_simp; done) | (go_simp; rfl)); (case hp => exact (Reps.c4 (show Kd.M k25 _ _ _ (⟨(rd_T25 l0_1 (ji19)).f0, (rd_T25 l0_1 (ji19)).f1, (rd_T25 l0_1 (ji19)).f2, (rd_T25 l0_1 (ji19)).f3⟩ : S25) [.int .i64 ((rd_T25 l0_1 (ji19)).f0), .int .i64 ((rd_T25 l0_1 (ji19)).f1), .string ((rd_T25 l0_1 (ji19)).f2), .string ((rd_T25 l0_1 (ji19)).f3)] from (k25_mkM _ _ _ (⟨(rd_T25 l0_1 (ji19)).f0, (rd_T25 l0_1 (ji19)).f1, (rd_T25 l0_1 (ji19)).f2, (rd_T25 l0_1 (ji19)).f3⟩ : S25) )) (Reps.none _ _)))
          intro v793 w28 ho29 hb hg_ hnew_
          clear hg_ hnew_
          (first | rw [← Ny792.out] at ho29 | (simp only [Int.reduceToNat] at ho29; rw [← Ny792.out] at ho29))
          have n0_ := Aside0.mk (Kd.R_lower ho29 (below_size (bb2_ HB GE775 GE776)))
          have n1_ := Aside0.mk (lb_ BK775 hb)
          have n2_ := Aside0.mk (lb_ BK776 hb)
          have n3_ := Aside0.mk (below_step (bb2_ HB GE775 GE776) hb)
          clear BK775
          clear BK776
          clear HB
          have HO794 := n0_
          have BK775 := n1_
          have BK776 := n2_
          have HB := n3_
          clear n0_ n1_ n2_ n3_
          clear hb ho29
          refine hK.out _ _ ⟨(blk_cell BK775.out 0).trans rfl, (blk_cell BK775.out 1).trans rfl, (blk_cell BK775.out 2).trans rfl, ((HB.out.cell (World.block_lt_of_cell? w _ hw791_0)).trans hw791_0), ((HB.out.cell (World.block_lt_of_cell? w _ hw791_1)).trans hw791_1), ((HB.out.cell (World.block_lt_of_cell? w _ hw791_2)).trans hw791_2), ((HB.out.cell (World.block_lt_of_cell? w _ hw791_3)).trans hw791_3)⟩ (fun hHeld => ?_)
          clear hK K
          refine norm_ (a' := ?_) ?_ ?_
          rotate_left
          ·show Act.put _ (some 33) _ = _
           simp only [Act.put, List.setIfInBounds_toArray, List.set_cons_zero, List.set_cons_succ, i64_w, i32_w]
           rfl
          refine one_ (i := 2) (N := some 19) #[true, true, true, true, true, true, true, false, true, true, false, true, true, true, true, true, true, false, false, false, false] rfl rfl (one_of HT_.out (by kernel_rfl)) (by decide) (fun K hK => ?_)
          refine goes_ Try.func53 (by kernel_rfl) rfl #[.slice A0_0 l0_0.length c0_0] (by rfl) rfl rfl args_ ?_
          with_reducible refine (slices_Clone_string_string.calls _ _ l0_0 t778 _ ?side1 ?side2 A18.out).mono ?_
          (case side1 => repeat (first | exact (Kd.C_below HR0_0.out HB.out) | (with_reducible first | apply cA_ | apply cN_ | apply cD_)))
          (case side2 => exact HC0_0.out)
          rintro e w30 ⟨v779, rfl, ho0, hb⟩
          refine ⟨_, rfl, ?_⟩
          have n0_ := Aside0.mk (Kd.R_below (ra_ HO794) hb)
          have n1_ := Aside0.mk (Kd.R_lower ho0 (below_size (bb2_ HB GE775 GE776)))
          have n2_ := Aside0.mk (lb_ BK775 hb)
          have n3_ := Aside0.mk (lb_ BK776 hb)
          have n4_ := Aside0.mk (below_step (bb2_ HB GE775 GE776) hb)
          clear HO794
          clear BK775
          clear BK776
          clear HB
          have HO794 := n0_
          have HO780 := n1_
          have BK775 := n2_
          have BK776 := n3_
          have HB := n4_
          clear n0_ n1_ n2_ n3_ n4_
          (try clear hb)
          (try clear hb2)
          (try clear hk)
          (try clear hi)
          (try clear ho0)
          refine hK.out _ _ ⟨(blk_cell BK775.out 0).trans rfl, (blk_cell BK775.out 1).trans rfl, (blk_cell BK775.out 2).trans rfl, ((HB.out.cell (World.block_lt_of_cell? w _ hw791_0)).trans hw791_0), ((HB.out.cell (World.block_lt_of_cell? w _ hw791_1)).trans hw791_1), ((HB.out.cell (World.block_lt_of_cell? w _ hw791_2)).trans hw791_2), ((HB.out.cell (World.block_lt_of_cell? w _ hw791_3)).trans hw791_3)⟩ (fun hHeld => ?_)
          clear hK K
          refine norm_ (a' := ?_) ?_ ?_
          rotate_left
          ·show Act.put _ (some 19) _ = _
           simp only [Act.put, List.setIfInBounds_toArray, List.set_cons_zero, List.set_cons_succ, i64_w, i32_w]
           rfl
          refine one_ (i := 7) (N := some 24) #[true, true, true, true, true, true, true, true, true, true, false, true, true, true, true, true, true, false, false, false, false] rfl rfl (one_of HT_.out (by kernel_rfl)) (by decide) (fun K hK => ?_)
          refine goes_ Try.func69 (by kernel_rfl) rfl #[.slice (some ad791) y781.length c0_1] (by rfl) rfl rfl args_ ?_
          with_reducible refine (impl_DeskEdit_69.calls _ _ y781 t785 _ ?side1 ?side2 A22.out).mono ?_
          (case side1 => repeat (first | exact (Kd.C_below HR784.out HB.out) | (with_reducible first | apply cA_ | apply cN_ | apply cD_)))
          (case side2 => exact HC784.out)
          rintro e w31 ⟨v786, rfl, ho0, hb⟩
          refine ⟨_, rfl, ?_⟩
          have n0_ := Aside0.mk (Kd.R_elder' (ra_ HO794) (Kd.R_base ho0) hb)
          have n1_ := Aside0.mk (Kd.R_below (ra_ HO780) hb)
          have n2_ := Aside0.mk (Kd.R_lower (Kd.R_new' ho0 (Kd.R_lt (ra_ HO794))) (below_size (bb2_ HB GE775 GE776)))
          have n3_ := Aside0.mk (lb_ BK775 hb)
          have n4_ := Aside0.mk (lb_ BK776 hb)
          have n5_ := Aside0.mk (below_step (bb2_ HB GE775 GE776) hb)
          clear HO794
          clear HO780
          clear BK775
          clear BK776
          clear HB
          have HO794 := n0_
          have HO780 := n1_
          have HO787 := n2_
          have BK775 := n3_
          have BK776 := n4_
          have HB := n5_
          clear n0_ n1_ n2_ n3_ n4_ n5_
          (try clear hb)
          (try clear hb2)
          (try clear hk)
          (try clear hi)
          (try clear ho0)
          refine hK.out _ _ ⟨(blk_cell BK775.out 0).trans rfl, (blk_cell BK775.out 1).trans rfl, (blk_cell BK775.out 2).trans rfl, ((HB.out.cell (World.block_lt_of_cell? w _ hw791_0)).trans hw791_0), ((HB.out.cell (World.block_lt_of_cell? w _ hw791_1)).trans hw791_1), ((HB.out.cell (World.block_lt_of_cell? w _ hw791_2)).trans hw791_2), ((HB.out.cell (World.block_lt_of_cell? w _ hw791_3)).trans hw791_3)⟩ (fun hHeld => ?_)
          clear hK K
          refine norm_ (a' := ?_) ?_ ?_
          rotate_left
          ·show Act.put _ (some 24) _ = _
           simp only [Act.put, List.setIfInBounds_toArray, List.set_cons_zero, List.set_cons_succ, i64_w, i32_w]
           rfl
          refine one_ (i := 10) (N := some 27) #[true, true, true, true, true, true, true, true, true, true, true, true, true, true, true, true, true, false, false, false, false] rfl rfl (one_of HT_.out (by kernel_rfl)) (by decide) (fun K hK => ?_)
          refine goes_ Try.func69 (by kernel_rfl) rfl #[.slice A0_2 l0_2.length c0_2] (by rfl) rfl rfl args_ ?_
          with_reducible refine (impl_DeskEdit_69.calls _ _ l0_2 t788 _ ?side1 ?side2 A23.out).mono ?_
          (case side1 => repeat (first | exact (Kd.C_below HR0_2.out HB.out) | (with_reducible first | apply cA_ | apply cN_ | apply cD_)))
          (case side2 => exact HC0_2.out)
          rintro e w32 ⟨v789, rfl, ho0, hb⟩
          refine ⟨_, rfl, ?_⟩
          have n0_ := Aside0.mk (Kd.R_elder' (ra_ HO794) (Kd.R_base ho0) hb)
          have n1_ := Aside0.mk (Kd.R_below (ra_ HO780) hb)
          have n2_ := Aside0.mk (Kd.R_elder' (ra_ HO787) (Kd.R_base ho0) hb)
          have n3_ := Aside0.mk (Kd.R_lower (Kd.R_new' (Kd.R_new' ho0 (Kd.R_lt (ra_ HO794))) (Kd.R_lt (ra_ HO787))) (below_size (bb2_ HB GE775 GE776)))
          have n4_ := Aside0.mk (lb_ BK775 hb)
          have n5_ := Aside0.mk (lb_ BK776 hb)
          have n6_ := Aside0.mk (below_step (bb2_ HB GE775 GE776) hb)
          clear HO794
          clear HO780
          clear HO787
          clear BK775
          clear BK776
          clear HB
          have HO794 := n0_
          have HO780 := n1_
          have HO787 := n2_
          have HO790 := n3_
          have BK775 := n4_
          have BK776 := n5_
          have HB := n6_
          clear n0_ n1_ n2_ n3_ n4_ n5_ n6_
          (try clear hb)
          (try clear hb2)
          (try clear hk)
          (try clear hi)
          (try clear ho0)
          refine hK.out _ _ ⟨(blk_cell BK775.out 0).trans rfl, (blk_cell BK775.out 1).trans rfl, (blk_cell BK775.out 2).trans rfl, ((HB.out.cell (World.block_lt_of_cell? w _ hw791_0)).trans hw791_0), ((HB.out.cell (World.block_lt_of_cell? w _ hw791_1)).trans hw791_1), ((HB.out.cell (World.block_lt_of_cell? w _ hw791_2)).trans hw791_2), ((HB.out.cell (World.block_lt_of_cell? w _ hw791_3)).trans hw791_3)⟩ (fun hHeld => ?_)
          clear hK K
          refine norm_ (a' := ?_) ?_ ?_
          rotate_left
          ·show Act.put _ (some 27) _ = _
           simp only [Act.put, List.setIfInBounds_toArray, List.set_cons_zero, List.set_cons_succ, i64_w, i32_w]
           rfl
          exact norm_ (by simp only [putAll, Act.put, List.setIfInBounds_toArray, List.set_cons_zero, List.set_cons_succ]) (hCont (v779, v786, v789, v793) _ ⟨hHeld, (ra_ HO780), (by (with_reducible repeat (first | apply rA_ | apply rN_ | apply rD_)); exact Kd.R_mono HO787.out (fun _ hk => ⟨hk.2, hk.1.2⟩)), (by (with_reducible repeat (first | apply rA_ | apply rN_ | apply rD_)); exact Kd.R_mono HO790.out (fun _ hk => ⟨hk.2, hk.1.2⟩)), (by (with_reducible repeat (first | apply rA_ | apply rN_ | apply rD_)); exact Kd.R_mono HO794.out (fun _ hk => ⟨hk.1.2, hk.2⟩)), (la_ BK775), (la_ BK776), (bb2_ HB GE775 GE776)⟩)
        rintro ⟨v779, v786, v789, v793⟩ w33 ⟨hS_, h0_, h1_, h2_, h3_, h4_, h5_, h6_⟩
        have n0_ : Aside0 (Kd.R Kd.string 9 w33 w.heap.size (fun _ => True) v779 t778) := ⟨h0_⟩
        have n1_ : Aside0 (Kd.R k25 25 w33 w.heap.size (fun k_ => some k_ ≠ (v789 : Value).ownBlock ∧ some k_ ≠ (v793 : Value).ownBlock) v786 t785) := ⟨h1_⟩
        have n2_ : Aside0 (Kd.R k25 25 w33 w.heap.size (fun k_ => some k_ ≠ (v786 : Value).ownBlock ∧ some k_ ≠ (v793 : Value).ownBlock) v789 t788) := ⟨h2_⟩
        have n3_ : Aside0 (Kd.R k25 25 w33 w.heap.size (fun k_ => some k_ ≠ (v786 : Value).ownBlock ∧ some k_ ≠ (v789 : Value).ownBlock) v793 y792) := ⟨h3_⟩
        have n4_ : Aside0 (w33.heap[gb775]? = some (.cells #[.slice A0_0 l0_0.length c0_0, .slice (some ad791) l0_1.length c0_1, .slice A0_2 l0_2.length c0_2] 35 (0, 0))) := ⟨h4_⟩
        have n5_ : Aside0 (w33.heap[gb776]? = some (.cells #[.slice none 0 0, .slice none 0 0, .slice none 0 0] 35 (0, 0))) := ⟨h5_⟩
        have n6_ : Aside0 (Below w.heap.size w w33) := ⟨h6_⟩
        clear BK775
        clear BK776
        clear HB
        clear h0_ h1_ h2_ h3_ h4_ h5_ h6_
        have HO780 := n0_
        have HO787 := n1_
        have HO790 := n2_
        have HO794 := n3_
        have BK775 := n4_
        have BK776 := n5_
        have HB := n6_
        clear n0_ n1_ n2_ n3_ n4_ n5_ n6_
        have hHeld : w33.cell? ⟨gb775, 0, none⟩ = some (.slice A0_0 l0_0.length c0_0) ∧ w33.cell? ⟨gb775, 1, none⟩ = some (.slice (some ad791) l0_1.length c0_1) ∧ w33.cell? ⟨gb775, 2, none⟩ = some (.slice A0_2 l0_2.length c0_2) ∧ w33.cell? (ad791.add (((ji19)).toNat * 4)) = some (.int .i64 ((rd_T25 l0_1 (ji19)).f0)) ∧ w33.cell? ⟨(ad791.add (((ji19)).toNat * 4)).block, (ad791.add (((ji19)).toNat * 4)).off + 1, none⟩ = some (.int .i64 ((rd_T25 l0_1 (ji19)).f1)) ∧ w33.cell? ⟨(ad791.add (((ji19)).toNat * 4)).block, (ad791.add (((ji19)).toNat * 4)).off + 2, none⟩ = some (.string ((rd_T25 l0_1 (ji19)).f2)) ∧ w33.cell? ⟨(ad791.add (((ji19)).toNat * 4)).block, (ad791.add (((ji19)).toNat * 4)).off + 3, none⟩ = some (.string ((rd_T25 l0_1 (ji19)).f3)) := hS_
        obtain ⟨Ao35, co35, eo35⟩ := Kd.R_slice HO794.out
        (first | subst eo35 | (injection eo35 with f1_ f2_ f3_; have f4_ := f1_.symm; have f5_ := f3_.symm; clear f1_ f2_ f3_; subst f4_; subst f5_))
        refine norm_ (a' := ?_) ?_ ?_
        rotate_left
        ·simp only [putAll, Act.put, List.setIfInBounds_toArray, List.set_cons_zero, List.set_cons_succ]
         rfl
        refine one_ (i := 17) (N := some 34) #[true, true, true, true, true, true, true, true, true, true, true, true, true, true, true, true, true, true, false, false, false] rfl rfl (one_of HT_.out (by kernel_rfl)) (by decide) (fun K hK => ?_)
        refine Kd.R_append_rows_step k25 (w0 := w) w.heap.size (by rfl) (.tmp 27) (.tmp 33) 33 25 (.agg #[(.int .i64 0), (.int .i64 0), (.string ⟨#[]⟩), (.string ⟨#[]⟩)]) 48 rfl Try.underlying33 info25 rfl (by decide) (by omega) v789 t788 y792 _ _ _ (fun k_ => some k_ ≠ (v786 : Value).ownBlock ∧ some k_ ≠ (.slice Ao35 y792.length co35 : Value).ownBlock) (fun _ => False) rfl rfl ?aO ?aR (fun _ _ h => h) (fun _ h => h.elim) ?aF ?aB ?aS ?aL ?_
        (case aR => repeat (first | exact (Kd.R_reads' HO794.out).2.2 | (with_reducible first | apply cA_ | apply cN_ | apply cD_)))
        (case aB => exact (bb2_ HB GE775 GE776))
        (case aF => exact (fun k_ hk => ⟨Kd.fresh' (Kd.R_lt (ra_ HO787)) k_ hk, Kd.fresh' (Kd.R_lt (ra_ HO794)) k_ hk⟩))
        (case aO => exact (ra_ HO790))
        (case aS => exact (below_size (bb2_ HB GE775 GE776)))
        (case aL => have := LMc25.out; omega)
        intro v796 w34 ho hb hg hat
        rw [← Ny795.out] at ho
        have n0_ := Aside0.mk (blk_grown (g := gb775) (o := .cells #[.slice A0_0 l0_0.length c0_0, .slice (some ad791) l0_1.length c0_1, .slice A0_2 l0_2.length c0_2] 35 (0, 0)) (la_ BK775) hg (Kd.R_ne HO790.out BK775.out (by decide)))
        have n1_ := Aside0.mk (blk_grown (g := gb776) (o := .cells #[.slice none 0 0, .slice none 0 0, .slice none 0 0] 35 (0, 0)) (la_ BK776) hg (Kd.R_ne HO790.out BK776.out (by decide)))
        have n2_ := Aside0.mk (Kd.R_over' (ra_ HO780) (Kd.R_typed (ra_ HO790)) (by decide) hg)
        have n3_ := Aside0.mk (Kd.R_after (ok := (fun k_ => some k_ ≠ (.slice Ao35 y792.length co35 : Value).ownBlock)) (by (with_reducible repeat (first | apply rA_ | apply rN_ | apply rD_)); exact Kd.R_mono HO787.out (fun _ hk => ⟨hk.2, hk.1⟩)) hg hat)
        have n4_ := Aside0.mk (Kd.R_after (ok := (fun k_ => some k_ ≠ (v786 : Value).ownBlock)) (ra_ HO794) hg hat)
        have n5_ := Aside0.mk (hb)
        have n6_ := Aside0.mk (ho)
        clear BK775
        clear BK776
        clear HO780
        clear HO787
        clear HO794
        clear HB
        clear HO790
        have BK775 := n0_
        have BK776 := n1_
        have HO780 := n2_
        have HO787 := n3_
        have HO794 := n4_
        have HB := n5_
        have HO797 := n6_
        clear n0_ n1_ n2_ n3_ n4_ n5_ n6_
        clear ho hb hg hat
        obtain ⟨Ao36, co36, eo36⟩ := Kd.R_slice HO797.out
        (first | subst eo36 | (injection eo36 with f1_ f2_ f3_; have f4_ := f1_.symm; have f5_ := f3_.symm; clear f1_ f2_ f3_; subst f4_; subst f5_))
        obtain ⟨Ao37, co37, eo37⟩ := Kd.R_slice HO787.out
        (first | subst eo37 | (injection eo37 with f1_ f2_ f3_; have f4_ := f1_.symm; have f5_ := f3_.symm; clear f1_ f2_ f3_; subst f4_; subst f5_))
        obtain ⟨Ao38, co38, eo38⟩ := Kd.R_slice HO780.out
        (first | subst eo38 | (injection eo38 with f1_ f2_ f3_; have f4_ := f1_.symm; have f5_ := f3_.symm; clear f1_ f2_ f3_; subst f4_; subst f5_))
        refine hK.out _ _ ⟨(blk_cell BK775.out 0).trans rfl, (blk_cell BK775.out 1).trans rfl, (blk_cell BK775.out 2).trans rfl, ((HB.out.cell (World.block_lt_of_cell? w _ hw791_0)).trans hw791_0), ((HB.out.cell (World.block_lt_of_cell? w _ hw791_1)).trans hw791_1), ((HB.out.cell (World.block_lt_of_cell? w _ hw791_2)).trans hw791_2), ((HB.out.cell (World.block_lt_of_cell? w _ hw791_3)).trans hw791_3)⟩ (fun hHeld => ?_)
        clear hK K
        refine norm_ (a' := ?_) ?_ ?_
        rotate_left
        ·show Act.put _ (some 34) _ = _
         simp only [Act.put, List.setIfInBounds_toArray, List.set_cons_zero, List.set_cons_succ, i64_w, i32_w]
         rfl
        refine pure_ (i := 18) (N := some 35) (v := ?_) (a' := ?_) #[true, true, true, true, true, true, true, true, true, true, true, true, true, true, true, true, true, true, true, false, false] rfl rfl (any_of HT_.out (by kernel_rfl)) (fun _ _ _ h => h) (Or.inl ⟨by rfl, ?_⟩) ?_ ?_
        rotate_left
        ·intro w'
         go_simp
         with_reducible rfl
        rotate_left
        ·simp only [Act.put, List.setIfInBounds_toArray, List.set_cons_zero, List.set_cons_succ, i64_w, i32_w]
         rfl
        refine one_ (i := 19) (N := none) #[true, true, true, true, true, true, true, true, true, true, true, true, true, true, true, true, true, true, true, true, false] rfl rfl (one_of HT_.out (by kernel_rfl)) (by decide) (fun K hK => ?_)
        have hs39 : w34.cell? ⟨gb776, 0, none⟩ = some (.slice none 0 0) := (blk_cell BK776.out 0).trans rfl
        have hfs39 := blk_frozen BK776.out 0
        have hns39_0 := NB775_776.out
        have hms39_0 := NB776_775.out
        have hs40 : w34.cell? ⟨gb776, 1, none⟩ = some (.slice none 0 0) := (blk_cell BK776.out 1).trans rfl
        have hfs40 := blk_frozen BK776.out 1
        have hns40_0 := NB775_776.out
        have hms40_0 := NB776_775.out
        have hs41 : w34.cell? ⟨gb776, 2, none⟩ = some (.slice none 0 0) := (blk_cell BK776.out 2).trans rfl
        have hfs41 := blk_frozen BK776.out 2
        have hns41_0 := NB775_776.out
        have hms41_0 := NB776_775.out
        refine skip_ (w1 := ?_) (by rfl) rfl ?_ ?_
        rotate_left
        ·go_simp
         rfl
        refine hK.out _ _ ⟨((cell_far (p := ⟨gb776, _, none⟩) NB775_776.out _).trans (((cell_far (p := ⟨gb776, _, none⟩) NB775_776.out _).trans (((cell_far (p := ⟨gb776, _, none⟩) NB775_776.out _).trans (hHeld.1)))))), ((cell_far (p := ⟨gb776, _, none⟩) NB775_776.out _).trans (((cell_far (p := ⟨gb776, _, none⟩) NB775_776.out _).trans (((cell_far (p := ⟨gb776, _, none⟩) NB775_776.out _).trans (hHeld.2.1)))))), ((cell_far (p := ⟨gb776, _, none⟩) NB775_776.out _).trans (((cell_far (p := ⟨gb776, _, none⟩) NB775_776.out _).trans (((cell_far (p := ⟨gb776, _, none⟩) NB775_776.out _).trans (hHeld.2.2.1)))))), ((cell_far (p := ⟨gb776, _, none⟩) (by first | exact Nat.ne_of_lt (Nat.lt_of_lt_of_le (by have := World.block_lt_of_cell? _ _ hw791_0; first | rwa [add_block] at this | exact this) GW776.out) | (rw [add_block]; exact Nat.ne_of_lt (Nat.lt_of_lt_of_le (by have := World.block_lt_of_cell? _ _ hw791_0; first | rwa [add_block] at this | exact this) GW776.out)) | (show (Addr.add _ _).block ≠ _; rw [add_block]; exact Nat.ne_of_lt (Nat.lt_of_lt_of_le (by have := World.block_lt_of_cell? _ _ hw791_0; first | rwa [add_block] at this | exact this) GW776.out)) | (dsimp only; exact Nat.ne_of_lt (Nat.lt_of_lt_of_le (by have := World.block_lt_of_cell? _ _ hw791_0; first | rwa [add_block] at this | exact this) GW776.out))) _).trans (((cell_far (p := ⟨gb776, _, none⟩) (by first | exact Nat.ne_of_lt (Nat.lt_of_lt_of_le (by have := World.block_lt_of_cell? _ _ hw791_0; first | rwa [add_block] at this | exact this) GW776.out) | (rw [add_block]; exact Nat.ne_of_lt (Nat.lt_of_lt_of_le (by have := World.block_lt_of_cell? _ _ hw791_0; first | rwa [add_block] at this | exact this) GW776.out)) | (show (Addr.add _ _).block ≠ _; rw [add_block]; exact Nat.ne_of_lt (Nat.lt_of_lt_of_le (by have := World.block_lt_of_cell? _ _ hw791_0; first | rwa [add_block] at this | exact this) GW776.out)) | (dsimp only; exact Nat.ne_of_lt (Nat.lt_of_lt_of_le (by have := World.block_lt_of_cell? _ _ hw791_0; first | rwa [add_block] at this | exact this) GW776.out))) _).trans (((cell_far (p := ⟨gb776, _, none⟩) (by first | exact Nat.ne_of_lt (Nat.lt_of_lt_of_le (by have := World.block_lt_of_cell? _ _ hw791_0; first | rwa [add_block] at this | exact this) GW776.out) | (rw [add_block]; exact Nat.ne_of_lt (Nat.lt_of_lt_of_le (by have := World.block_lt_of_cell? _ _ hw791_0; first | rwa [add_block] at this | exact this) GW776.out)) | (show (Addr.add _ _).block ≠ _; rw [add_block]; exact Nat.ne_of_lt (Nat.lt_of_lt_of_le (by have := World.block_lt_of_cell? _ _ hw791_0; first | rwa [add_block] at this | exact this) GW776.out)) | (dsimp only; exact Nat.ne_of_lt (Nat.lt_of_lt_of_le (by have := World.block_lt_of_cell? _ _ hw791_0; first | rwa [add_block] at this | exact this) GW776.out))) _).trans (hHeld.2.2.2.1)))))), ((cell_far (p := ⟨gb776, _, none⟩) (by first | exact Nat.ne_of_lt (Nat.lt_of_lt_of_le (by have := World.block_lt_of_cell? _ _ hw791_1; first | rwa [add_block] at this | exact this) GW776.out) | (rw [add_block]; exact Nat.ne_of_lt (Nat.lt_of_lt_of_le (by have := World.block_lt_of_cell? _ _ hw791_1; first | rwa [add_block] at this | exact this) GW776.out)) | (show (Addr.add _ _).block ≠ _; rw [add_block]; exact Nat.ne_of_lt (Nat.lt_of_lt_of_le (by have := World.block_lt_of_cell? _ _ hw791_1; first | rwa [add_block] at this | exact this) GW776.out)) | (dsimp only; exact Nat.ne_of_lt (Nat.lt_of_lt_of_le (by have := World.block_lt_of_cell? _ _ hw791_1; first | rwa [add_block] at this | exact this) GW776.out))) _).trans (((cell_far (p := ⟨gb776, _, none⟩) (by first | exact Nat.ne_of_lt (Nat.lt_of_lt_of_le (by have := World.block_lt_of_cell? _ _ hw791_1; first | rwa [add_block] at this | exact this) GW776.out) | (rw [add_block]; exact Nat.ne_of_lt (Nat.lt_of_lt_of_le (by have := World.block_lt_of_cell? _ _ hw791_1; first | rwa [add_block] at this | exact this) GW776.out)) | (show (Addr.add _ _).block ≠ _; rw [add_block]; exact Nat.ne_of_lt (Nat.lt_of_lt_of_le (by have := World.block_lt_of_cell? _ _ hw791_1; first | rwa [add_block] at this | exact this) GW776.out)) | (dsimp only; exact Nat.ne_of_lt (Nat.lt_of_lt_of_le (by have := World.block_lt_of_cell? _ _ hw791_1; first | rwa [add_block] at this | exact this) GW776.out))) _).trans (((cell_far (p := ⟨gb776, _, none⟩) (by first | exact Nat.ne_of_lt (Nat.lt_of_lt_of_le (by have := World.block_lt_of_cell? _ _ hw791_1; first | rwa [add_block] at this | exact this) GW776.out) | (rw [add_block]; exact Nat.ne_of_lt (Nat.lt_of_lt_of_le (by have := World.block_lt_of_cell? _ _ hw791_1; first | rwa [add_block] at this | exact this) GW776.out)) | (show (Addr.add _ _).block ≠ _; rw [add_block]; exact Nat.ne_of_lt (Nat.lt_of_lt_of_le (by have := World.block_lt_of_cell? _ _ hw791_1; first | rwa [add_block] at this | exact this) GW776.out)) | (dsimp only; exact Nat.ne_of_lt (Nat.lt_of_lt_of_le (by have := World.block_lt_of_cell? _ _ hw791_1; first | rwa [add_block] at this | exact this) GW776.out))) _).trans (hHeld.2.2.2.2.1)))))), ((cell_far (p := ⟨gb776, _, none⟩) (by first | exact Nat.ne_of_lt (Nat.lt_of_lt_of_le (by have := World.block_lt_of_cell? _ _ hw791_2; first | rwa [add_block] at this | exact this) GW776.out) | (rw [add_block]; exact Nat.ne_of_lt (Nat.lt_of_lt_of_le (by have := World.block_lt_of_cell? _ _ hw791_2; first | rwa [add_block] at this | exact this) GW776.out)) | (show (Addr.add _ _).block ≠ _; rw [add_block]; exact Nat.ne_of_lt (Nat.lt_of_lt_of_le (by have := World.block_lt_of_cell? _ _ hw791_2; first | rwa [add_block] at this | exact this) GW776.out)) | (dsimp only; exact Nat.ne_of_lt (Nat.lt_of_lt_of_le (by have := World.block_lt_of_cell? _ _ hw791_2; first | rwa [add_block] at this | exact this) GW776.out))) _).trans (((cell_far (p := ⟨gb776, _, none⟩) (by first | exact Nat.ne_of_lt (Nat.lt_of_lt_of_le (by have := World.block_lt_of_cell? _ _ hw791_2; first | rwa [add_block] at this | exact this) GW776.out) | (rw [add_block]; exact Nat.ne_of_lt (Nat.lt_of_lt_of_le (by have := World.block_lt_of_cell? _ _ hw791_2; first | rwa [add_block] at this | exact this) GW776.out)) | (show (Addr.add _ _).block ≠ _; rw [add_block]; exact Nat.ne_of_lt (Nat.lt_of_lt_of_le (by have := World.block_lt_of_cell? _ _ hw791_2; first | rwa [add_block] at this | exact this) GW776.out)) | (dsimp only; exact Nat.ne_of_lt (Nat.lt_of_lt_of_le (by have := World.block_lt_of_cell? _ _ hw791_2; first | rwa [add_block] at this | exact this) GW776.out))) _).trans (((cell_far (p := ⟨gb776, _, none⟩) (by first | exact Nat.ne_of_lt (Nat.lt_of_lt_of_le (by have := World.block_lt_of_cell? _ _ hw791_2; first | rwa [add_block] at this | exact this) GW776.out) | (rw [add_block]; exact Nat.ne_of_lt (Nat.lt_of_lt_of_le (by have := World.block_lt_of_cell? _ _ hw791_2; first | rwa [add_block] at this | exact this) GW776.out)) | (show (Addr.add _ _).block ≠ _; rw [add_block]; exact Nat.ne_of_lt (Nat.lt_of_lt_of_le (by have := World.block_lt_of_cell? _ _ hw791_2; first | rwa [add_block] at this | exact this) GW776.out)) | (dsimp only; exact Nat.ne_of_lt (Nat.lt_of_lt_of_le (by have := World.block_lt_of_cell? _ _ hw791_2; first | rwa [add_block] at this | exact this) GW776.out))) _).trans (hHeld.2.2.2.2.2.1)))))), ((cell_far (p := ⟨gb776, _, none⟩) (by first | exact Nat.ne_of_lt (Nat.lt_of_lt_of_le (by have := World.block_lt_of_cell? _ _ hw791_3; first | rwa [add_block] at this | exact this) GW776.out) | (rw [add_block]; exact Nat.ne_of_lt (Nat.lt_of_lt_of_le (by have := World.block_lt_of_cell? _ _ hw791_3; first | rwa [add_block] at this | exact this) GW776.out)) | (show (Addr.add _ _).block ≠ _; rw [add_block]; exact Nat.ne_of_lt (Nat.lt_of_lt_of_le (by have := World.block_lt_of_cell? _ _ hw791_3; first | rwa [add_block] at this | exact this) GW776.out)) | (dsimp only; exact Nat.ne_of_lt (Nat.lt_of_lt_of_le (by have := World.block_lt_of_cell? _ _ hw791_3; first | rwa [add_block] at this | exact this) GW776.out))) _).trans (((cell_far (p := ⟨gb776, _, none⟩) (by first | exact Nat.ne_of_lt (Nat.lt_of_lt_of_le (by have := World.block_lt_of_cell? _ _ hw791_3; first | rwa [add_block] at this | exact this) GW776.out) | (rw [add_block]; exact Nat.ne_of_lt (Nat.lt_of_lt_of_le (by have := World.block_lt_of_cell? _ _ hw791_3; first | rwa [add_block] at this | exact this) GW776.out)) | (show (Addr.add _ _).block ≠ _; rw [add_block]; exact Nat.ne_of_lt (Nat.lt_of_lt_of_le (by have := World.block_lt_of_cell? _ _ hw791_3; first | rwa [add_block] at this | exact this) GW776.out)) | (dsimp only; exact Nat.ne_of_lt (Nat.lt_of_lt_of_le (by have := World.block_lt_of_cell? _ _ hw791_3; first | rwa [add_block] at this | exact this) GW776.out))) _).trans (((cell_far (p := ⟨gb776, _, none⟩) (by first | exact Nat.ne_of_lt (Nat.lt_of_lt_of_le (by have := World.block_lt_of_cell? _ _ hw791_3; first | rwa [add_block] at this | exact this) GW776.out) | (rw [add_block]; exact Nat.ne_of_lt (Nat.lt_of_lt_of_le (by have := World.block_lt_of_cell? _ _ hw791_3; first | rwa [add_block] at this | exact this) GW776.out)) | (show (Addr.add _ _).block ≠ _; rw [add_block]; exact Nat.ne_of_lt (Nat.lt_of_lt_of_le (by have := World.block_lt_of_cell? _ _ hw791_3; first | rwa [add_block] at this | exact this) GW776.out)) | (dsimp only; exact Nat.ne_of_lt (Nat.lt_of_lt_of_le (by have := World.block_lt_of_cell? _ _ hw791_3; first | rwa [add_block] at this | exact this) GW776.out))) _).trans (hHeld.2.2.2.2.2.2))))))⟩ (fun hHeld => ?_)
        clear hK K
        refine pure_ (i := 20) (N := some 3) (v := ?_) (a' := ?_) #[true, true, true, true, true, true, true, true, true, true, true, true, true, true, true, true, true, true, true, true, true] rfl rfl (any_of HT_.out (by kernel_rfl)) (fun _ _ _ h => h) (Or.inl ⟨by rfl, ?_⟩) ?_ ?_
        rotate_left
        ·intro w'
         go_simp
         with_reducible rfl
        rotate_left
        ·simp only [Act.put, List.setIfInBounds_toArray, List.set_cons_zero, List.set_cons_succ, i64_w, i32_w]
         rfl
        refine done_ (done_of HT_.out (by kernel_rfl)) ?_
        try go_wp2
        refine bodyPost_ret (results_ct rfl _ _ gb776 35 #[.slice Ao38 t778.length co38, .slice Ao37 t785.length co37, .slice Ao36 y795.length co36] (0, 0) _ rfl (by (with_reducible repeat (first | apply lN_ | apply lD_ | apply lA_)); refine blk_put (cs := #[.slice Ao38 t778.length co38, .slice Ao37 t785.length co37, .slice none 0 0]) ?_ 2 _ rfl; (with_reducible repeat (first | apply lN_ | apply lD_ | apply lA_)); refine blk_put (cs := #[.slice Ao38 t778.length co38, .slice none 0 0, .slice none 0 0]) ?_ 1 _ rfl; (with_reducible repeat (first | apply lN_ | apply lD_ | apply lA_)); refine blk_put (cs := #[.slice none 0 0, .slice none 0 0, .slice none 0 0]) ?_ 0 _ rfl; (with_reducible repeat (first | apply lN_ | apply lD_ | apply lA_)); exact BK776.out) Try.underlying35 rfl (by kernel_rfl)) rfl ?_
        exact ⟨_, _, _, by first | rfl | (simp [errW_none, errW_some] <;> rfl) | (simp only [← hji19]; first | rfl | (simp [errW_none, errW_some] <;> rfl)) | (simp [*, errW_none, errW_some] <;> rfl), by (with_reducible repeat (first | apply rA_ | apply rN_ | apply rD_)); exact Kd.R_mono (fr_ (fr_ (fr_ (ft_ HO780 BK776) 0 (.slice Ao38 t778.length co38)) 1 (.slice Ao37 t785.length co37)) 2 (.slice Ao36 y795.length co36)) (fun _ hk => trivial), by (with_reducible repeat (first | apply rA_ | apply rN_ | apply rD_)); exact Kd.R_mono (fr_ (fr_ (fr_ (ft_ HO787 BK776) 0 (.slice Ao38 t778.length co38)) 1 (.slice Ao37 t785.length co37)) 2 (.slice Ao36 y795.length co36)) (fun _ hk => hk.1.2), by (with_reducible repeat (first | apply rA_ | apply rN_ | apply rD_)); exact Kd.R_mono (fr_ (fr_ (fr_ (ft_ HO797 BK776) 0 (.slice Ao38 t778.length co38)) 1 (.slice Ao37 t785.length co37)) 2 (.slice Ao36 y795.length co36)) (fun _ hk => hk.1.1), bb2_ HB GE775 GE776⟩
       ·rw [if_neg c25] at H
        exact absurd H (by simp)
      ·rw [if_neg c24] at H
       exact absurd H (by simp)
     ·rw [if_neg c21] at H
      exact absurd H (by simp)
    ·rw [if_neg c20] at H
     exact absurd H (by simp)

end Go.Proofs.Ytmmpnigbfiebbaa.PA
