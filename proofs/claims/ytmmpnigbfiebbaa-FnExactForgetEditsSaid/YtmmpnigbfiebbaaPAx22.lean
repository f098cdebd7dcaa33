-- Written by a program of this session (wip/tools/myprint.py). Not trusted: Lean checks it.
import Derived.Test.YtmmpnigbfiebbaaPAx0
import Derived.Test.YtmmpnigbfiebbaaPAx1
import Derived.Test.YtmmpnigbfiebbaaPAx5
import Derived.Test.YtmmpnigbfiebbaaPAx6
import Derived.Test.YtmmpnigbfiebbaaPAx8
namespace Go.Proofs.Ytmmpnigbfiebbaa.PA
open Go.RowKit Go.Proofs.YtmmpnigbfiebbaaW.PrintWords Go.Proofs.YtmmpnigbfiebbaaW.PrintLast Go.Proofs.YtmmpnigbfiebbaaW.PrintMore
attribute [local go_sem] max2_int min2_int max_two min_two max_three min_three max_four min_four   -- for this text's walks alone
set_option linter.unusedVariables false
set_option linter.unusedSimpArgs false

/-! ### spec_ForgetEdits: function 41 -/
def spec_ForgetEdits.j0 : Nat → Int → Bool → List ByteArray → List (S25) → List (S25) → Option (List ByteArray × (List (S25)) × (List (S25)) × Bool)
 | 0, _, _, _, _, _ => none
 | k + 1, x1, x19, x885000, x885001, x885002 => if x19 = true then (some (([] : List ByteArray), ([] : List (S25)), ([] : List (S25)), false)) else (if 0 ≤ x1 then (if x1 ≤ (x885001.length : Int) then ((spec_unDesk.f x885000 x885001 x885002 (x885001.drop (x1 : Int).toNat) x885002).bind fun bt892 => ((spec_unAfter.f k x885000 (x885001.take (x1 : Int).toNat)).bind fun bt906 => (some (bt906.1, bt892.2.1, bt892.2.2, true)))) else (none)) else (none))
def spec_ForgetEdits.f (k : Nat) (l0_0 : List ByteArray) (l0_1 : List (S25)) (l0_2 : List (S25)) (a1 : Int) : Option (List ByteArray × (List (S25)) × (List (S25)) × Bool) := (spec_unGood.f k l0_0 l0_1 l0_2).bind fun t886 => (if t886 = true then ((spec_l1In.f a1 0 (l0_1.length : Int)).bind fun t887 => (spec_ForgetEdits.j0 k a1 (!t887) l0_0 l0_1 l0_2)) else (spec_ForgetEdits.j0 k a1 true l0_0 l0_1 l0_2))
theorem spec_ForgetEdits.mono_l : ∀ k, (∀ y0 y1 y2 y3 y4, LeO (spec_ForgetEdits.j0 k y0 y1 y2 y3 y4) (spec_ForgetEdits.j0 (k + 1) y0 y1 y2 y3 y4))
 | 0 => fun _ _ _ _ _ r h => by simp [spec_ForgetEdits.j0] at h
 | k + 1 => by
  have ih0 := spec_ForgetEdits.mono_l k
  ·intro y0 y1 y2 y3 y4
   unfold spec_ForgetEdits.j0
   repeat' first
   | (with_reducible exact ih0 _ _ _ _ _)
   | (with_reducible exact spec_unAfter.mono _ _ _)
   | (with_reducible exact spec_unGood.mono _ _ _ _)
   | (with_reducible exact LeO.refl _)
   | (with_reducible exact LeO.none _)
   | (with_reducible refine LeO.ite ?_ ?_)
   | (with_reducible refine LeO.bind ?_ (fun _ => ?_))
   | exact ih0 _ _ _ _ _
   | exact LeO.none _
   | refine LeO.ite ?_ ?_
   | refine LeO.bind ?_ (fun _ => ?_)
theorem spec_ForgetEdits.mono : ∀ a0 a1 a2 a3 k, LeO (spec_ForgetEdits.f k a0 a1 a2 a3) (spec_ForgetEdits.f (k + 1) a0 a1 a2 a3) := by
 intro a0 a1 a2 a3 k
 have ih0 := spec_ForgetEdits.mono_l k
 unfold spec_ForgetEdits.f
 repeat' first
   | (with_reducible exact ih0 _ _ _ _ _)
   | (with_reducible exact spec_unAfter.mono _ _ _)
   | (with_reducible exact spec_unGood.mono _ _ _ _)
   | (with_reducible exact LeO.refl _)
   | (with_reducible exact LeO.none _)
   | (with_reducible refine LeO.ite ?_ ?_)
   | (with_reducible refine LeO.bind ?_ (fun _ => ?_))
   | exact ih0 _ _ _ _ _
   | exact LeO.none _
   | refine LeO.ite ?_ ?_
   | refine LeO.bind ?_ (fun _ => ?_)
def spec_ForgetEdits.T3 : Bool × List (List Nat × List Nat) := (true, [([], []), ([], []), ([1], [1]), ([], []), ([2, 3], [2, 3]), ([], []), ([5], [5]), ([0, 4, 6], [0, 4, 6]), ([], []), ([8, 7, 7, 0, 1, 2, 3, 4, 5, 6, 7, 8], [7, 8])])
def spec_ForgetEdits.B3 : List Nat := [0, 0, 2, 0, 14, 0, 32, 127, 0, 511]
theorem spec_ForgetEdits.tab3 : rtab .any (opsOf Try.f41 3) = spec_ForgetEdits.T3 := by kernel_rfl
theorem spec_ForgetEdits.bits3 : waitsOk spec_ForgetEdits.T3.2 spec_ForgetEdits.B3 = true := by kernel_rfl
def spec_ForgetEdits.T4 : Bool × List (List Nat × List Nat) := (true, [([], []), ([0], [0]), ([], []), ([2], [2]), ([], []), ([3, 4], [3, 4]), ([1, 5], [1, 5]), ([6], [6]), ([7], [7]), ([7], [7]), ([8, 6, 0, 1, 2, 3, 4, 5, 6, 7, 8], [8]), ([9, 10, 0, 1, 2, 3, 4, 5, 6, 7, 8, 9, 10], [9])])
def spec_ForgetEdits.B4 : List Nat := [0, 1, 0, 4, 0, 28, 63, 127, 255, 255, 511, 2047]
theorem spec_ForgetEdits.tab4 : rtab .any (opsOf Try.f41 4) = spec_ForgetEdits.T4 := by kernel_rfl
theorem spec_ForgetEdits.bits4 : waitsOk spec_ForgetEdits.T4.2 spec_ForgetEdits.B4 = true := by kernel_rfl
set_option maxHeartbeats 8000000 in
set_option maxRecDepth 100000 in
theorem spec_ForgetEdits.calls (k : Nat) (A0_0 : Option Addr) (c0_0 : Nat) (l0_0 : List ByteArray) (A0_1 : Option Addr) (c0_1 : Nat) (l0_1 : List (S25)) (A0_2 : Option Addr) (c0_2 : Nat) (l0_2 : List (S25)) (a1 : Int) (r1 : List ByteArray) (r2 : List (S25)) (r3 : List (S25)) (r4 : Bool) (w : World) (hr0_0 : Kd.C Kd.string w A0_0 l0_0.length l0_0) (hc0_0 : l0_0.length ≤ c0_0) (hr0_1 : Kd.C k25 w A0_1 l0_1.length l0_1) (hc0_1 : l0_1.length ≤ c0_1) (hr0_2 : Kd.C k25 w A0_2 l0_2.length l0_2) (hc0_2 : l0_2.length ≤ c0_2) (h : spec_ForgetEdits.f k l0_0 l0_1 l0_2 a1 = some (r1, r2, r3, r4)) :
  Calls Try.prog 41 #[.agg #[.slice A0_0 l0_0.length c0_0, .slice A0_1 l0_1.length c0_1, .slice A0_2 l0_2.length c0_2], .int .i64 a1] w fun e w' => ∃ v0_ v1_ v2_ : Value, e = .returned (.tuple #[.agg #[v0_, v1_, v2_], .bool r4]) ∧ Kd.R Kd.string 9 w' w.heap.size (fun _ => True) v0_ r1 ∧ Kd.R k25 25 w' w.heap.size (fun k_ => some k_ ≠ (v2_ : Value).ownBlock) v1_ r2 ∧ Kd.R k25 25 w' w.heap.size (fun k_ => some k_ ≠ (v1_ : Value).ownBlock) v2_ r3 ∧ Below w.heap.size w w' := by
 have hu35 := Try.underlying35
 have HR0_0 := Aside0.mk hr0_0
 have HC0_0 := Aside0.mk hc0_0
 clear hr0_0 hc0_0
 have HR0_1 := Aside0.mk hr0_1
 have HC0_1 := Aside0.mk hc0_1
 clear hr0_1 hc0_1
 have HR0_2 := Aside0.mk hr0_2
 have HC0_2 := Aside0.mk hc0_2
 clear hr0_2 hc0_2
 have HB := Aside0.mk (Below.refl w.heap.size w)
 have H : ((spec_unGood.f k l0_0 l0_1 l0_2).bind fun t886 => (if t886 = true then ((spec_l1In.f a1 0 (l0_1.length : Int)).bind fun t887 => (spec_ForgetEdits.j0 k a1 (!t887) l0_0 l0_1 l0_2)) else (spec_ForgetEdits.j0 k a1 true l0_0 l0_1 l0_2))) = some (r1, r2, r3, r4) := h
 clear h
 have HC3 := Aside0.mk H
 clear H
 go_enter Try.func41, Try.ntmps41
 go_upto_region 1 with (first | ((with_reducible refine gate_dst (N := 2) rfl ?_); (try (refine gate_guard (by rfl) ?_; dsimp only)); refine box_event ?hg (N := 2) ?hd (cs := #[.slice A0_0 l0_0.length c0_0, .slice A0_1 l0_1.length c0_1, .slice A0_2 l0_2.length c0_2]) (t := 35) ?hr ?_; (case hd => rfl); (case hg => rfl); (case hr => first | (go_simp; done) | (go_simp; rfl)); intro gb884 hg w4 hbox hb; have n0_ := Aside0.mk (bt_ HB hb); have n1_ := Aside0.mk (hbox); have n2_ := Aside0.mk ((by rw [hg]; exact (bz_ HB) : w.heap.size ≤ gb884)); have n3_ := Aside0.mk ((by rw [hg]; exact (bz_ HB) : w.heap.size ≤ gb884)); clear HB; have HB := n0_; have BK884 := n1_; have GW884 := n2_; have GE884 := n3_; clear n0_ n1_ n2_ n3_; clear hb hbox hg) | ((with_reducible refine gate_dst (N := 4) rfl ?_); (try (refine gate_guard (by rfl) ?_; dsimp only)); refine box_event ?hg (N := 4) ?hd (cs := #[.slice none 0 0, .slice none 0 0, .slice none 0 0]) (t := 35) ?hr ?_; (case hd => rfl); (case hg => rfl); (case hr => first | (go_simp; done) | (go_simp; rfl)); intro gb885 hg w5 hbox hb; have n0_ := Aside0.mk (lb_ BK884 hb); have n1_ := Aside0.mk (below_step (bb1_ HB GE884) hb); have n2_ := Aside0.mk (hbox); have n3_ := Aside0.mk ((by rw [hg]; exact (below_size (bb1_ HB GE884)) : w.heap.size ≤ gb885)); have n4_ := Aside0.mk ((by rw [hg]; exact (below_size (bb1_ HB GE884)) : w.heap.size ≤ gb885)); have n5_ := Aside0.mk ((by rw [hg]; exact Nat.ne_of_lt (blk_lt (g := gb884) (o := .cells #[.slice A0_0 l0_0.length c0_0, .slice A0_1 l0_1.length c0_1, .slice A0_2 l0_2.length c0_2] 35 (0, 0)) (la_ BK884)) : gb884 ≠ gb885)); have n6_ := Aside0.mk ((by rw [hg]; exact Nat.ne_of_gt (blk_lt (g := gb884) (o := .cells #[.slice A0_0 l0_0.length c0_0, .slice A0_1 l0_1.length c0_1, .slice A0_2 l0_2.length c0_2] 35 (0, 0)) (la_ BK884)) : gb885 ≠ gb884)); clear BK884; clear HB; have BK884 := n0_; have HB := n1_; have BK885 := n2_; have GW885 := n3_; have GE885 := n4_; have NB884_885 := n5_; have NB885_884 := n6_; clear n0_ n1_ n2_ n3_ n4_ n5_ n6_; clear hb hbox hg))
 (try simp only [Act.put, List.setIfInBounds_toArray, List.set_cons_zero, List.set_cons_succ])
 go_cut [19] (fun v19 wc => ∃ (kq : Nat) (x19_2 : Bool), v19 = .bool x19_2 ∧ Aside0 (spec_ForgetEdits.j0 kq a1 x19_2 l0_0 l0_1 l0_2 = some (r1, r2, r3, r4)) ∧ Aside0 (kq ≤ k) ∧ Aside0 (wc.heap[gb884]? = some (.cells #[(.slice A0_0 l0_0.length c0_0), (.slice A0_1 l0_1.length c0_1), (.slice A0_2 l0_2.length c0_2)] 35 (0, 0))) ∧ Aside0 (wc.heap[gb885]? = some (.cells #[(.slice none 0 0), (.slice none 0 0), (.slice none 0 0)] 35 (0, 0))) ∧ Aside0 (Below w.heap.size w wc))
 case first =>
  have H := HC3.out
  clear HC3
  replace H := Option.bind_eq_some_iff.mp H
  obtain ⟨t886, A60, H⟩ := H
  try dsimp only at H
  have A6 := Aside0.mk A60
  clear A60
  by_cases c7 : t886 = true
  ·subst c7
   have H1 : ((spec_l1In.f a1 0 (l0_1.length : Int)).bind fun t887 => (spec_ForgetEdits.j0 k a1 (!t887) l0_0 l0_1 l0_2)) = some (r1, r2, r3, r4) := by rw [if_pos rfl] at H; exact H
   clear H
   have H := H1
   clear H1
   replace H := Option.bind_eq_some_iff.mp H
   obtain ⟨t887, A80, H⟩ := H
   try dsimp only at H
   have A8 := Aside0.mk A80
   clear A80
   have H' := Aside0.mk H
   clear H
   have hnb9 := NB884_885.out
   have hnc9 := NB885_884.out
   have hcz10_0 : w5.cell? ⟨gb884, 0, none⟩ = some (.slice A0_0 l0_0.length c0_0) := (blk_cell BK884.out 0).trans rfl
   have hcz10_1 : w5.cell? ⟨gb884, 1, none⟩ = some (.slice A0_1 l0_1.length c0_1) := (blk_cell BK884.out 1).trans rfl
   have hcz10_2 : w5.cell? ⟨gb884, 2, none⟩ = some (.slice A0_2 l0_2.length c0_2) := (blk_cell BK884.out 2).trans rfl
   have hfz10_0 := blk_frozen BK884.out 0
   have hfz10_1 := blk_frozen BK884.out 1
   have hfz10_2 := blk_frozen BK884.out 2
   go_wp2_with (first | ((with_reducible refine gate_callee (f := 59) rfl ?_); refine goesL_ (some 10) rfl rfl Try.func59 (by kernel_rfl) rfl #[.agg #[.slice A0_0 l0_0.length c0_0, .slice A0_1 l0_1.length c0_1, .slice A0_2 l0_2.length c0_2]] rfl args_ ?_; (with_reducible refine (spec_unGood.calls k _ _ l0_0 _ _ l0_1 _ _ l0_2 true _ ?side1 ?side2 ?side3 ?side4 ?side5 ?side6 A6.out).mono ?_); (case side1 => repeat (first | exact (Kd.C_below HR0_0.out HB.out) | (with_reducible first | apply cA_ | apply cN_ | apply cD_))); (case side2 => exact HC0_0.out); (case side3 => repeat (first | exact (Kd.C_below HR0_1.out HB.out) | (with_reducible first | apply cA_ | apply cN_ | apply cD_))); (case side4 => exact HC0_1.out); (case side5 => repeat (first | exact (Kd.C_below HR0_2.out HB.out) | (with_reducible first | apply cA_ | apply cN_ | apply cD_))); (case side6 => exact HC0_2.out); rintro e w11 ⟨rfl, hb⟩; refine ⟨_, rfl, ?_⟩; have n0_ := Aside0.mk (lb_ BK884 hb); have n1_ := Aside0.mk (lb_ BK885 hb); have n2_ := Aside0.mk (below_step (bb2_ HB GE884 GE885) hb); clear BK884; clear BK885; clear HB; have BK884 := n0_; have BK885 := n1_; have HB := n2_; clear n0_ n1_ n2_; (try clear hb); (try clear hb2); (try clear hk); (try clear hi); have hcz12_0 : w11.cell? ⟨gb884, 0, none⟩ = some (.slice A0_0 l0_0.length c0_0) := (blk_cell BK884.out 0).trans rfl; have hcz12_1 : w11.cell? ⟨gb884, 1, none⟩ = some (.slice A0_1 l0_1.length c0_1) := (blk_cell BK884.out 1).trans rfl; have hcz12_2 : w11.cell? ⟨gb884, 2, none⟩ = some (.slice A0_2 l0_2.length c0_2) := (blk_cell BK884.out 2).trans rfl; have hfz12_0 := blk_frozen BK884.out 0; have hfz12_1 := blk_frozen BK884.out 1; have hfz12_2 := blk_frozen BK884.out 2) | (go_at_call 63; (with_reducible refine (spec_l1In.calls a1 0 (l0_1.length : Int) t887 _ A8.out).mono ?_); rintro e w' ⟨rfl, ⟨nd, rfl⟩⟩))
   go_meet
   case rel => exact ⟨_, (!t887), (by first | rfl | (simp; done) | (simp [*]; done)), H', ⟨by first | omega | exact Nat.le_refl _⟩, ⟨by (with_reducible repeat (first | apply lN_ | apply lD_ | apply lA_)); exact BK884.out⟩, ⟨by (with_reducible repeat (first | apply lN_ | apply lD_ | apply lA_)); exact BK885.out⟩, ⟨bb2_ HB GE884 GE885⟩⟩
  ·replace c7 := Bool.eq_false_iff.mpr c7
   subst c7
   have H1 : (spec_ForgetEdits.j0 k a1 true l0_0 l0_1 l0_2) = some (r1, r2, r3, r4) := by rw [if_neg (show ¬ (false = true) by decide)] at H; exact H
   clear H
   have H := H1
   clear H1
   have H' := Aside0.mk H
   clear H
   have hnb13 := NB884_885.out
   have hnc13 := NB885_884.out
   have hcz14_0 : w5.cell? ⟨gb884, 0, none⟩ = some (.slice A0_0 l0_0.length c0_0) := (blk_cell BK884.out 0).trans rfl
   have hcz14_1 : w5.cell? ⟨gb884, 1, none⟩ = some (.slice A0_1 l0_1.length c0_1) := (blk_cell BK884.out 1).trans rfl
   have hcz14_2 : w5.cell? ⟨gb884, 2, none⟩ = some (.slice A0_2 l0_2.length c0_2) := (blk_cell BK884.out 2).trans rfl
   have hfz14_0 := blk_frozen BK884.out 0
   have hfz14_1 := blk_frozen BK884.out 1
   have hfz14_2 := blk_frozen BK884.out 2
   go_wp2_with (first | ((with_reducible refine gate_callee (f := 59) rfl ?_); refine goesL_ (some 10) rfl rfl Try.func59 (by kernel_rfl) rfl #[.agg #[.slice A0_0 l0_0.length c0_0, .slice A0_1 l0_1.length c0_1, .slice A0_2 l0_2.length c0_2]] rfl args_ ?_; (with_reducible refine (spec_unGood.calls k _ _ l0_0 _ _ l0_1 _ _ l0_2 false _ ?side1 ?side2 ?side3 ?side4 ?side5 ?side6 A6.out).mono ?_); (case side1 => repeat (first | exact (Kd.C_below HR0_0.out HB.out) | (with_reducible first | apply cA_ | apply cN_ | apply cD_))); (case side2 => exact HC0_0.out); (case side3 => repeat (first | exact (Kd.C_below HR0_1.out HB.out) | (with_reducible first | apply cA_ | apply cN_ | apply cD_))); (case side4 => exact HC0_1.out); (case side5 => repeat (first | exact (Kd.C_below HR0_2.out HB.out) | (with_reducible first | apply cA_ | apply cN_ | apply cD_))); (case side6 => exact HC0_2.out); rintro e w15 ⟨rfl, hb⟩; refine ⟨_, rfl, ?_⟩; have n0_ := Aside0.mk (lb_ BK884 hb); have n1_ := Aside0.mk (lb_ BK885 hb); have n2_ := Aside0.mk (below_step (bb2_ HB GE884 GE885) hb); clear BK884; clear BK885; clear HB; have BK884 := n0_; have BK885 := n1_; have HB := n2_; clear n0_ n1_ n2_; (try clear hb); (try clear hb2); (try clear hk); (try clear hi)))
   go_meet
   case rel => exact ⟨_, (true), (by first | rfl | (simp; done) | (simp [*]; done)), H', ⟨by first | omega | exact Nat.le_refl _⟩, ⟨by (with_reducible repeat (first | apply lN_ | apply lD_ | apply lA_)); exact BK884.out⟩, ⟨by (with_reducible repeat (first | apply lN_ | apply lD_ | apply lA_)); exact BK885.out⟩, ⟨bb2_ HB GE884 GE885⟩⟩
 case rest =>
  clear HC3
  try clear c1
  try clear p2
  try clear c4
  try clear c5
  try clear c7
  try clear c9
  try clear c13
  try clear hcz10_0
  try clear hcz10_1
  try clear hcz10_2
  try clear hcz12_0
  try clear hcz12_1
  try clear hcz12_2
  try clear hcz14_0
  try clear hcz14_1
  try clear hcz14_2
  try clear hfz10_0
  try clear hfz10_1
  try clear hfz10_2
  try clear hfz12_0
  try clear hfz12_1
  try clear hfz12_2
  try clear hfz14_0
  try clear hfz14_1
  try clear hfz14_2
  obtain ⟨kq, x19_2, rfl, HA, HJ2, BK884, BK885, HB⟩ := hcut
  cases kq with
  | zero => exact absurd HA.out (by simp [spec_ForgetEdits.j0])
  | succ kj2 =>
   have H := HA.out
   clear HA
   simp only [spec_ForgetEdits.j0] at H
   by_cases c16 : x19_2 = true
   ·subst c16
    have H1 : (some (([] : List ByteArray), ([] : List (S25)), ([] : List (S25)), false)) = some (r1, r2, r3, r4) := by rw [if_pos rfl] at H; exact H
    clear H
    have H := H1
    clear H1
    simp only [Option.some.injEq, Prod.mk.injEq] at H
    obtain ⟨rfl, rfl, rfl, rfl⟩ := H
    have hnb17 := NB885_884.out
    have hnc17 := NB884_885.out
    have hcz18_0 : wc.cell? ⟨gb885, 0, none⟩ = some (.slice none 0 0) := (blk_cell BK885.out 0).trans rfl
    have hcz18_1 : wc.cell? ⟨gb885, 1, none⟩ = some (.slice none 0 0) := (blk_cell BK885.out 1).trans rfl
    have hcz18_2 : wc.cell? ⟨gb885, 2, none⟩ = some (.slice none 0 0) := (blk_cell BK885.out 2).trans rfl
    have hfz18_0 := blk_frozen BK885.out 0
    have hfz18_1 := blk_frozen BK885.out 1
    have hfz18_2 := blk_frozen BK885.out 2
    go_wp2
    refine bodyPost_ret (results_ct rfl _ _ gb885 35 #[.slice none 0 0, .slice none 0 0, .slice none 0 0] (0, 0) _ rfl (by (with_reducible repeat (first | apply lN_ | apply lD_ | apply lA_)); refine blk_put (cs := #[.slice none 0 0, .slice none 0 0, .slice none 0 0]) ?_ 2 _ rfl; (with_reducible repeat (first | apply lN_ | apply lD_ | apply lA_)); refine blk_put (cs := #[.slice none 0 0, .slice none 0 0, .slice none 0 0]) ?_ 1 _ rfl; (with_reducible repeat (first | apply lN_ | apply lD_ | apply lA_)); refine blk_put (cs := #[.slice none 0 0, .slice none 0 0, .slice none 0 0]) ?_ 0 _ rfl; (with_reducible repeat (first | apply lN_ | apply lD_ | apply lA_)); exact BK885.out) Try.underlying35 rfl (by kernel_rfl)) rfl ?_
    exact ⟨_, _, _, by first | rfl | (simp [errW_none, errW_some] <;> rfl) | (simp [*, errW_none, errW_some] <;> rfl), by first | exact Kd.R_nil _ _ _ _ _ | exact Kd.N_nil _ _ _ _ _ | exact Kd.V_nil _ _ _ _ _ | exact Kd.Q_nil _ _ _ _ _ | exact Kd.S_nil _ _ _ _ _, by first | exact Kd.R_nil _ _ _ _ _ | exact Kd.N_nil _ _ _ _ _ | exact Kd.V_nil _ _ _ _ _ | exact Kd.Q_nil _ _ _ _ _ | exact Kd.S_nil _ _ _ _ _, by first | exact Kd.R_nil _ _ _ _ _ | exact Kd.N_nil _ _ _ _ _ | exact Kd.V_nil _ _ _ _ _ | exact Kd.Q_nil _ _ _ _ _ | exact Kd.S_nil _ _ _ _ _, bb2_ HB GE884 GE885⟩
   ·replace c16 := Bool.eq_false_iff.mpr c16
    subst c16
    have H1 : (if 0 ≤ a1 then (if a1 ≤ (l0_1.length : Int) then ((spec_unDesk.f l0_0 l0_1 l0_2 (l0_1.drop (a1 : Int).toNat) l0_2).bind fun bt892 => ((spec_unAfter.f kj2 l0_0 (l0_1.take (a1 : Int).toNat)).bind fun bt906 => (some (bt906.1, bt892.2.1, bt892.2.2, true)))) else (none)) else (none)) = some (r1, r2, r3, r4) := by rw [if_neg (show ¬ (false = true) by decide)] at H; exact H
    clear H
    have H := H1
    clear H1
    by_cases c19 : 0 ≤ a1
    ·rw [if_pos c19] at H
     have c19b0 := eq_true c19
     have c19b1 : decide (0 ≤ a1) = true := decide_eq_true c19
     clear c19
     by_cases c20 : a1 ≤ (l0_1.length : Int)
     ·rw [if_pos c20] at H
      have c20b0 := eq_true c20
      have c20b1 : decide (a1 ≤ (l0_1.length : Int)) = true := decide_eq_true c20
      clear c20
      obtain ⟨y888, hy888⟩ : ∃ y_ : List (S25), y_ = (l0_1.drop (a1 : Int).toNat) := ⟨_, rfl⟩
      replace H : ((spec_unDesk.f l0_0 l0_1 l0_2 y888 l0_2).bind fun bt892 => ((spec_unAfter.f kj2 l0_0 (l0_1.take (a1 : Int).toNat)).bind fun bt906 => (some (bt906.1, bt892.2.1, bt892.2.2, true)))) = some (r1, r2, r3, r4) := by first | (rw [hy888]; with_reducible exact H) | (have H2_ := (Option.bind_some _ _).symm.trans H; rw [hy888]; with_reducible exact H2_) | (have H2_ := (Option.bind_some _ _).symm.trans H; with_reducible exact H2_) | with_reducible exact H | (rw [hy888]; exact H) | exact H
      have Ny888 := Aside0.mk hy888
      clear hy888
      replace H := Option.bind_eq_some_iff.mp H
      obtain ⟨⟨t892, t895, t898⟩, A210, H⟩ := H
      try dsimp only at H
      have A21 := Aside0.mk A210
      clear A210
      have c22b0 := eq_true (of_decide_eq_true (by first | (with_reducible assumption) | assumption) : 0 ≤ a1)
      have c23b0 := eq_true (of_decide_eq_true (by first | (with_reducible assumption) | assumption) : a1 ≤ (l0_1.length : Int))
      obtain ⟨y902, hy902⟩ : ∃ y_ : List (S25), y_ = (l0_1.take (a1 : Int).toNat) := ⟨_, rfl⟩
      replace H : ((spec_unAfter.f kj2 l0_0 y902).bind fun bt906 => (some (bt906.1, t895, t898, true))) = some (r1, r2, r3, r4) := by first | (rw [hy902]; with_reducible exact H) | (have H2_ := (Option.bind_some _ _).symm.trans H; rw [hy902]; with_reducible exact H2_) | (have H2_ := (Option.bind_some _ _).symm.trans H; with_reducible exact H2_) | with_reducible exact H | (rw [hy902]; exact H) | exact H
      have Ny902 := Aside0.mk hy902
      clear hy902
      replace H := Option.bind_eq_some_iff.mp H
      obtain ⟨⟨t906, t907⟩, A240, H⟩ := H
      try dsimp only at H
      have A24 := Aside0.mk A240
      clear A240
      simp only [Option.some.injEq, Prod.mk.injEq] at H
      obtain ⟨rfl, rfl, rfl, rfl⟩ := H
      try go_wp2
      have n0_ := Aside0.mk (blk_drew BK884.out)
      have n1_ := Aside0.mk (blk_drew BK885.out)
      have n2_ := Aside0.mk (below_drew1 HB.out)
      clear BK884
      clear BK885
      clear HB
      have BK884 := n0_
      have BK885 := n1_
      have HB := n2_
      clear n0_ n1_ n2_
      have q26 : (a1 : Int) ≤ ((l0_1.length : Int) : Int) := of_decide_eq_true (by first | (with_reducible assumption) | assumption)
      obtain ⟨i026, hi026, _, hsz26, _⟩ := info_parts info25
      have hroom26 : l0_1.length ≤ c0_1 := HC0_1.out
      have hC26 : Kd.C k25 _ A0_1 l0_1.length l0_1 := HR0_1.out
      have q026 : (0 : Int) ≤ (a1 : Int) := of_decide_eq_true (by first | (with_reducible assumption) | assumption)
      have hcut26 := cut_from (P := Try.prog) 33 25 .i64 Try.underlying33 hi026 4 hsz26 A0_1 l0_1.length c0_1 a1 q026 q26
      have hr26 := Kd.C_drop (m := (a1 : Int).toNat) (c := c0_1) hC26 (by omega) hroom26
      obtain ⟨A26, hA26⟩ : ∃ A1, A1 = (if c0_1 = (a1 : Int).toNat then A0_1 else (A0_1 : Option Addr).map (·.add ((a1 : Int).toNat * 4))) := ⟨_, rfl⟩
      obtain ⟨c26, hc26⟩ : ∃ c1, c1 = c0_1 - (a1 : Int).toNat := ⟨_, rfl⟩
      have hy26 : y888.length = l0_1.length - (a1 : Int).toNat := (by rw [Ny888.out, List.length_drop] <;> omega)
      rw [show (l0_1).drop (a1 : Int).toNat = y888 from Ny888.out.symm] at hr26
      replace hr26 : Kd.C k25 _ A26 y888.length y888 := (by rw [hA26]; exact hr26)
      rw [← hy26, ← hA26, ← hc26] at hcut26
      have HR891 := Aside0.mk hr26
      have HC891 := Aside0.mk (show y888.length ≤ c26 from by rw [hy26, hc26]; exact Nat.sub_le_sub_right hroom26 _)
      clear hr26 hC26 hroom26 hi026 hsz26 hc26
      have KY26 := Aside0.mk hy26
      have KA26 := Aside0.mk hA26
      clear hy26 hA26
      replace q26 := eq_true q26
      refine start_ (n := 10) (S := fun w' => w'.cell? ⟨gb884, 0, none⟩ = some (.slice A0_0 l0_0.length c0_0) ∧ w'.cell? ⟨gb884, 1, none⟩ = some (.slice A0_1 l0_1.length c0_1) ∧ w'.cell? ⟨gb884, 2, none⟩ = some (.slice A0_2 l0_2.length c0_2)) (ds := []) #[false, false, false, false, false, false, false, false, false, false] (by kernel_rfl) rfl rfl ⟨(blk_cell BK884.out 0).trans rfl, (blk_cell BK884.out 1).trans rfl, (blk_cell BK884.out 2).trans rfl⟩ (fun hHeld => ?_); refine with_tabW spec_ForgetEdits.tab3 spec_ForgetEdits.bits3 (fun HT_ HW_ => ?_)
      generalize wc.drew = w25 at BK884 BK885 HB HR891 hHeld ⊢
      refine pure_ (i := 1) (N := some 22) (v := ?_) (a' := ?_) #[false, true, false, false, false, false, false, false, false, false] rfl rfl (any_of HT_.out (by kernel_rfl)) (fun _ _ _ h => h) (Or.inl ⟨by rfl, ?_⟩) ?_ ?_
      rotate_left
      ·intro w'
       go_simp
       with_reducible rfl
      rotate_left
      ·simp only [Act.put, List.setIfInBounds_toArray, List.set_cons_zero, List.set_cons_succ, i64_w, i32_w]
       rfl
      refine pure_ (i := 3) (N := some 24) (v := ?_) (a' := ?_) #[false, true, false, true, false, false, false, false, false, false] rfl rfl (any_of HT_.out (by kernel_rfl)) (fun _ _ _ h => h) (Or.inl ⟨by rfl, ?_⟩) ?_ ?_
      rotate_left
      ·intro w'
       go_simp
       with_reducible rfl
      rotate_left
      ·simp only [Act.put, List.setIfInBounds_toArray, List.set_cons_zero, List.set_cons_succ, i64_w, i32_w]
       rfl
      refine pure_ (i := 5) (N := some 26) (v := ?_) (a' := ?_) #[false, true, false, true, false, true, false, false, false, false] rfl rfl (any_of HT_.out (by kernel_rfl)) (fun _ _ _ h => h) (Or.inl ⟨by rfl, ?_⟩) ?_ ?_
      rotate_left
      ·intro w'
       go_simp
       with_reducible rfl
      rotate_left
      ·simp only [Act.put, List.setIfInBounds_toArray, List.set_cons_zero, List.set_cons_succ, i64_w, i32_w]
       rfl
      refine take_ (i := 0) (N := some 21) (v := ?_) (a' := ?_) #[true, true, false, true, false, true, false, false, false, false] rfl rfl (take_ofW HT_.out HW_.out (by kernel_rfl)) (fun _ _ _ h => h) (Or.inl ⟨by rfl, ?_⟩) hHeld ?_ ?_
      rotate_left
      ·rintro w' ⟨s0, s1, s2⟩
       go_simp
       with_reducible rfl
      rotate_left
      ·simp only [Act.put, List.setIfInBounds_toArray, List.set_cons_zero, List.set_cons_succ, i64_w, i32_w]
       rfl
      refine take_ (i := 2) (N := some 23) (v := ?_) (a' := ?_) #[true, true, true, true, false, true, false, false, false, false] rfl rfl (take_ofW HT_.out HW_.out (by kernel_rfl)) (fun _ _ _ h => h) (Or.inl ⟨by rfl, ?_⟩) hHeld ?_ ?_
      rotate_left
      ·rintro w' ⟨s0, s1, s2⟩
       go_simp
       with_reducible rfl
      rotate_left
      ·simp only [Act.put, List.setIfInBounds_toArray, List.set_cons_zero, List.set_cons_succ, i64_w, i32_w]
       rfl
      refine pure_ (i := 4) (N := some 25) (v := ?_) (a' := ?_) #[true, true, true, true, true, true, false, false, false, false] rfl rfl (any_of HT_.out (by kernel_rfl)) (fun _ _ _ h => h) (Or.inl ⟨by rfl, ?_⟩) ?_ ?_
      rotate_left
      ·intro w'
       go_simp
       with_reducible rfl
      rotate_left
      ·simp only [Act.put, List.setIfInBounds_toArray, List.set_cons_zero, List.set_cons_succ, i64_w, i32_w]
       rfl
      refine take_ (i := 6) (N := some 27) (v := ?_) (a' := ?_) #[true, true, true, true, true, true, true, false, false, false] rfl rfl (take_ofW HT_.out HW_.out (by kernel_rfl)) (fun _ _ _ h => h) (Or.inl ⟨by rfl, ?_⟩) hHeld ?_ ?_
      rotate_left
      ·rintro w' ⟨s0, s1, s2⟩
       go_simp
       with_reducible rfl
      rotate_left
      ·simp only [Act.put, List.setIfInBounds_toArray, List.set_cons_zero, List.set_cons_succ, i64_w, i32_w]
       rfl
      refine join_ (σ := Value × Value × Value × Nat) 1 #[true, true, true, true, true, true, true, true, true, false] (fun s_ => [(28, .agg #[s_.1, s_.2.1, s_.2.2.1]), (6, .pointer (some ⟨s_.2.2.2, 0, none⟩))]) (fun s_ w' => (w'.cell? ⟨gb884, 0, none⟩ = some (.slice A0_0 l0_0.length c0_0) ∧ w'.cell? ⟨gb884, 1, none⟩ = some (.slice A0_1 l0_1.length c0_1) ∧ w'.cell? ⟨gb884, 2, none⟩ = some (.slice A0_2 l0_2.length c0_2)) ∧ (Kd.R Kd.string 9 w' w.heap.size (fun _ => True) s_.1 t892) ∧ (Kd.R k25 25 w' w.heap.size (fun k_ => some k_ ≠ (s_.2.2.1 : Value).ownBlock) s_.2.1 t895) ∧ (Kd.R k25 25 w' w.heap.size (fun k_ => some k_ ≠ (s_.2.1 : Value).ownBlock) s_.2.2.1 t898) ∧ (w'.heap[gb884]? = some (.cells #[.slice A0_0 l0_0.length c0_0, .slice A0_1 l0_1.length c0_1, .slice A0_2 l0_2.length c0_2] 35 (0, 0))) ∧ (w'.heap[gb885]? = some (.cells #[.slice none 0 0, .slice none 0 0, .slice none 0 0] 35 (0, 0))) ∧ (w'.heap[s_.2.2.2]? = some (.cells #[.slice none 0 0, .slice none 0 0, .slice none 0 0] 35 (0, 0))) ∧ (w.heap.size ≤ s_.2.2.2) ∧ (w.heap.size ≤ s_.2.2.2) ∧ (gb884 ≠ s_.2.2.2) ∧ (s_.2.2.2 ≠ gb884) ∧ (gb885 ≠ s_.2.2.2) ∧ (s_.2.2.2 ≠ gb885) ∧ (Below w.heap.size w w')) ?_ ?_
      rotate_left
      ·intro hCont
       refine two_ (i := 7) (j := 8) (Ni := some 28) (Nj := some 6) #[true, true, true, true, true, true, true, true, false, false] #[true, true, true, true, true, true, true, false, true, false] rfl rfl rfl rfl (two_of HT_.out (by kernel_rfl)) (by decide) (by decide) (fun K hK => ?_) (fun K hK => ?_)
       ·skip
        refine goes_ Try.func68 (by kernel_rfl) rfl #[.agg #[.slice A0_0 l0_0.length c0_0, .slice A0_1 l0_1.length c0_1, .slice A0_2 l0_2.length c0_2], .slice A26 y888.length c26, .slice A0_2 l0_2.length c0_2] (by rfl) rfl rfl args_ ?_
        with_reducible refine (spec_unDesk.calls _ _ l0_0 _ _ l0_1 _ _ l0_2 _ _ y888 _ _ l0_2 t892 t895 t898 _ ?side1 ?side2 ?side3 ?side4 ?side5 ?side6 ?side7 ?side8 ?side9 ?side10 A21.out).mono ?_
        (case side1 => repeat (first | exact (Kd.C_below HR0_0.out HB.out) | (with_reducible first | apply cA_ | apply cN_ | apply cD_)))
        (case side2 => exact HC0_0.out)
        (case side3 => repeat (first | exact (Kd.C_below HR0_1.out HB.out) | (with_reducible first | apply cA_ | apply cN_ | apply cD_)))
        (case side4 => exact HC0_1.out)
        (case side5 => repeat (first | exact (Kd.C_below HR0_2.out HB.out) | (with_reducible first | apply cA_ | apply cN_ | apply cD_)))
        (case side6 => exact HC0_2.out)
        (case side7 => repeat (first | exact (Kd.C_below HR891.out HB.out) | (with_reducible first | apply cA_ | apply cN_ | apply cD_)))
        (case side8 => exact HC891.out)
        (case side9 => repeat (first | exact (Kd.C_below HR0_2.out HB.out) | (with_reducible first | apply cA_ | apply cN_ | apply cD_)))
        (case side10 => exact HC0_2.out)
        rintro e w27 ⟨v893, v896, v899, rfl, ho0, ho1, ho2, hb⟩
        refine ⟨_, rfl, ?_⟩
        have n0_ := Aside0.mk (Kd.R_lower ho0 (below_size (bb2_ HB GE884 GE885)))
        have n1_ := Aside0.mk (Kd.R_lower ho1 (below_size (bb2_ HB GE884 GE885)))
        have n2_ := Aside0.mk (Kd.R_lower ho2 (below_size (bb2_ HB GE884 GE885)))
        have n3_ := Aside0.mk (lb_ BK884 hb)
        have n4_ := Aside0.mk (lb_ BK885 hb)
        have n5_ := Aside0.mk (below_step (bb2_ HB GE884 GE885) hb)
        clear BK884
        clear BK885
        clear HB
        have HO894 := n0_
        have HO897 := n1_
        have HO900 := n2_
        have BK884 := n3_
        have BK885 := n4_
        have HB := n5_
        clear n0_ n1_ n2_ n3_ n4_ n5_
        (try clear hb)
        (try clear hb2)
        (try clear hk)
        (try clear hi)
        (try clear ho0)
        (try clear ho1)
        (try clear ho2)
        refine hK.out _ _ ⟨(blk_cell BK884.out 0).trans rfl, (blk_cell BK884.out 1).trans rfl, (blk_cell BK884.out 2).trans rfl⟩ (fun hHeld => ?_)
        clear hK K
        refine norm_ (a' := ?_) ?_ ?_
        rotate_left
        ·show Act.put _ (some 28) _ = _
         simp only [Act.put, List.setIfInBounds_toArray, List.set_cons_zero, List.set_cons_succ, i64_w, i32_w]
         rfl
        refine one_ (i := 8) (N := some 6) #[true, true, true, true, true, true, true, true, true, false] rfl rfl (one_of HT_.out (by kernel_rfl)) (by decide) (fun K hK => ?_)
        refine box_step ?hg (N := 6) ?hd (cs := #[.slice none 0 0, .slice none 0 0, .slice none 0 0]) (t := 35) ?hr ?_; (case hd => rfl); (case hg => rfl); (case hr => first | (go_simp; done) | (go_simp; rfl))
        intro gb901 hg w28 hbox hb
        have n0_ := Aside0.mk (Kd.R_below (ra_ HO894) hb)
        have n1_ := Aside0.mk (Kd.R_below (ra_ HO897) hb)
        have n2_ := Aside0.mk (Kd.R_below (ra_ HO900) hb)
        have n3_ := Aside0.mk (lb_ BK884 hb)
        have n4_ := Aside0.mk (lb_ BK885 hb)
        have n5_ := Aside0.mk (below_step (bb2_ HB GE884 GE885) hb)
        have n6_ := Aside0.mk (hbox)
        have n7_ := Aside0.mk ((by rw [hg]; exact (below_size (bb2_ HB GE884 GE885)) : w.heap.size ≤ gb901))
        have n8_ := Aside0.mk ((by rw [hg]; exact (below_size (bb2_ HB GE884 GE885)) : w.heap.size ≤ gb901))
        have n9_ := Aside0.mk ((by rw [hg]; exact Nat.ne_of_lt (blk_lt (g := gb884) (o := .cells #[.slice A0_0 l0_0.length c0_0, .slice A0_1 l0_1.length c0_1, .slice A0_2 l0_2.length c0_2] 35 (0, 0)) (la_ BK884)) : gb884 ≠ gb901))
        have n10_ := Aside0.mk ((by rw [hg]; exact Nat.ne_of_gt (blk_lt (g := gb884) (o := .cells #[.slice A0_0 l0_0.length c0_0, .slice A0_1 l0_1.length c0_1, .slice A0_2 l0_2.length c0_2] 35 (0, 0)) (la_ BK884)) : gb901 ≠ gb884))
        have n11_ := Aside0.mk ((by rw [hg]; exact Nat.ne_of_lt (blk_lt (g := gb885) (o := .cells #[.slice none 0 0, .slice none 0 0, .slice none 0 0] 35 (0, 0)) (la_ BK885)) : gb885 ≠ gb901))
        have n12_ := Aside0.mk ((by rw [hg]; exact Nat.ne_of_gt (blk_lt (g := gb885) (o := .cells #[.slice none 0 0, .slice none 0 0, .slice none 0 0] 35 (0, 0)) (la_ BK885)) : gb901 ≠ gb885))
        clear HO894
        clear HO897
        clear HO900
        clear BK884
        clear BK885
        clear HB
        have HO894 := n0_
        have HO897 := n1_
        have HO900 := n2_
        have BK884 := n3_
        have BK885 := n4_
        have HB := n5_
        have BK901 := n6_
        have GW901 := n7_
        have GE901 := n8_
        have NB884_901 := n9_
        have NB901_884 := n10_
        have NB885_901 := n11_
        have NB901_885 := n12_
        clear n0_ n1_ n2_ n3_ n4_ n5_ n6_ n7_ n8_ n9_ n10_ n11_ n12_
        clear hb hbox hg
        refine hK.out _ _ ⟨(blk_cell BK884.out 0).trans rfl, (blk_cell BK884.out 1).trans rfl, (blk_cell BK884.out 2).trans rfl⟩ (fun hHeld => ?_)
        clear hK K
        refine norm_ (a' := ?_) ?_ ?_
        rotate_left
        ·show Act.put _ (some 6) _ = _
         simp only [Act.put, List.setIfInBounds_toArray, List.set_cons_zero, List.set_cons_succ, i64_w, i32_w]
         rfl
        exact norm_ (by simp only [putAll, Act.put, List.setIfInBounds_toArray, List.set_cons_zero, List.set_cons_succ]) (hCont (v893, v896, v899, gb901) _ ⟨hHeld, (ra_ HO894), (ra_ HO897), (ra_ HO900), (la_ BK884), (la_ BK885), (la_ BK901), GW901.out, GE901.out, NB884_901.out, NB901_884.out, NB885_901.out, NB901_885.out, (bb3_ HB GE884 GE885 GE901)⟩)
       ·skip
        refine box_step ?hg (N := 6) ?hd (cs := #[.slice none 0 0, .slice none 0 0, .slice none 0 0]) (t := 35) ?hr ?_; (case hd => rfl); (case hg => rfl); (case hr => first | (go_simp; done) | (go_simp; rfl))
        intro gb901 hg w27 hbox hb
        have n0_ := Aside0.mk (lb_ BK884 hb)
        have n1_ := Aside0.mk (lb_ BK885 hb)
        have n2_ := Aside0.mk (below_step (bb2_ HB GE884 GE885) hb)
        have n3_ := Aside0.mk (hbox)
        have n4_ := Aside0.mk ((by rw [hg]; exact (below_size (bb2_ HB GE884 GE885)) : w.heap.size ≤ gb901))
        have n5_ := Aside0.mk ((by rw [hg]; exact (below_size (bb2_ HB GE884 GE885)) : w.heap.size ≤ gb901))
        have n6_ := Aside0.mk ((by rw [hg]; exact Nat.ne_of_lt (blk_lt (g := gb884) (o := .cells #[.slice A0_0 l0_0.length c0_0, .slice A0_1 l0_1.length c0_1, .slice A0_2 l0_2.length c0_2] 35 (0, 0)) (la_ BK884)) : gb884 ≠ gb901))
        have n7_ := Aside0.mk ((by rw [hg]; exact Nat.ne_of_gt (blk_lt (g := gb884) (o := .cells #[.slice A0_0 l0_0.length c0_0, .slice A0_1 l0_1.length c0_1, .slice A0_2 l0_2.length c0_2] 35 (0, 0)) (la_ BK884)) : gb901 ≠ gb884))
        have n8_ := Aside0.mk ((by rw [hg]; exact Nat.ne_of_lt (blk_lt (g := gb885) (o := .cells #[.slice none 0 0, .slice none 0 0, .slice none 0 0] 35 (0, 0)) (la_ BK885)) : gb885 ≠ gb901))
        have n9_ := Aside0.mk ((by rw [hg]; exact Nat.ne_of_gt (blk_lt (g := gb885) (o := .cells #[.slice none 0 0, .slice none 0 0, .slice none 0 0] 35 (0, 0)) (la_ BK885)) : gb901 ≠ gb885))
        clear BK884
        clear BK885
        clear HB
        have BK884 := n0_
        have BK885 := n1_
        have HB := n2_
        have BK901 := n3_
        have GW901 := n4_
        have GE901 := n5_
        have NB884_901 := n6_
        have NB901_884 := n7_
        have NB885_901 := n8_
        have NB901_885 := n9_
        clear n0_ n1_ n2_ n3_ n4_ n5_ n6_ n7_ n8_ n9_
        clear hb hbox hg
        refine hK.out _ _ ⟨(blk_cell BK884.out 0).trans rfl, (blk_cell BK884.out 1).trans rfl, (blk_cell BK884.out 2).trans rfl⟩ (fun hHeld => ?_)
        clear hK K
        refine norm_ (a' := ?_) ?_ ?_
        rotate_left
        ·show Act.put _ (some 6) _ = _
         simp only [Act.put, List.setIfInBounds_toArray, List.set_cons_zero, List.set_cons_succ, i64_w, i32_w]
         rfl
        refine one_ (i := 7) (N := some 28) #[true, true, true, true, true, true, true, true, true, false] rfl rfl (one_of HT_.out (by kernel_rfl)) (by decide) (fun K hK => ?_)
        refine goes_ Try.func68 (by kernel_rfl) rfl #[.agg #[.slice A0_0 l0_0.length c0_0, .slice A0_1 l0_1.length c0_1, .slice A0_2 l0_2.length c0_2], .slice A26 y888.length c26, .slice A0_2 l0_2.length c0_2] (by rfl) rfl rfl args_ ?_
        with_reducible refine (spec_unDesk.calls _ _ l0_0 _ _ l0_1 _ _ l0_2 _ _ y888 _ _ l0_2 t892 t895 t898 _ ?side1 ?side2 ?side3 ?side4 ?side5 ?side6 ?side7 ?side8 ?side9 ?side10 A21.out).mono ?_
        (case side1 => repeat (first | exact (Kd.C_below HR0_0.out HB.out) | (with_reducible first | apply cA_ | apply cN_ | apply cD_)))
        (case side2 => exact HC0_0.out)
        (case side3 => repeat (first | exact (Kd.C_below HR0_1.out HB.out) | (with_reducible first | apply cA_ | apply cN_ | apply cD_)))
        (case side4 => exact HC0_1.out)
        (case side5 => repeat (first | exact (Kd.C_below HR0_2.out HB.out) | (with_reducible first | apply cA_ | apply cN_ | apply cD_)))
        (case side6 => exact HC0_2.out)
        (case side7 => repeat (first | exact (Kd.C_below HR891.out HB.out) | (with_reducible first | apply cA_ | apply cN_ | apply cD_)))
        (case side8 => exact HC891.out)
        (case side9 => repeat (first | exact (Kd.C_below HR0_2.out HB.out) | (with_reducible first | apply cA_ | apply cN_ | apply cD_)))
        (case side10 => exact HC0_2.out)
        rintro e w28 ⟨v893, v896, v899, rfl, ho0, ho1, ho2, hb⟩
        refine ⟨_, rfl, ?_⟩
        have n0_ := Aside0.mk (Kd.R_lower ho0 (below_size (bb3_ HB GE884 GE885 GE901)))
        have n1_ := Aside0.mk (Kd.R_lower ho1 (below_size (bb3_ HB GE884 GE885 GE901)))
        have n2_ := Aside0.mk (Kd.R_lower ho2 (below_size (bb3_ HB GE884 GE885 GE901)))
        have n3_ := Aside0.mk (lb_ BK884 hb)
        have n4_ := Aside0.mk (lb_ BK885 hb)
        have n5_ := Aside0.mk (lb_ BK901 hb)
        have n6_ := Aside0.mk (below_step (bb3_ HB GE884 GE885 GE901) hb)
        clear BK884
        clear BK885
        clear BK901
        clear HB
        have HO894 := n0_
        have HO897 := n1_
        have HO900 := n2_
        have BK884 := n3_
        have BK885 := n4_
        have BK901 := n5_
        have HB := n6_
        clear n0_ n1_ n2_ n3_ n4_ n5_ n6_
        (try clear hb)
        (try clear hb2)
        (try clear hk)
        (try clear hi)
        (try clear ho0)
        (try clear ho1)
        (try clear ho2)
        refine hK.out _ _ ⟨(blk_cell BK884.out 0).trans rfl, (blk_cell BK884.out 1).trans rfl, (blk_cell BK884.out 2).trans rfl⟩ (fun hHeld => ?_)
        clear hK K
        refine norm_ (a' := ?_) ?_ ?_
        rotate_left
        ·show Act.put _ (some 28) _ = _
         simp only [Act.put, List.setIfInBounds_toArray, List.set_cons_zero, List.set_cons_succ, i64_w, i32_w]
         rfl
        exact norm_ (by simp only [putAll, Act.put, List.setIfInBounds_toArray, List.set_cons_zero, List.set_cons_succ]) (hCont (v893, v896, v899, gb901) _ ⟨hHeld, (ra_ HO894), (ra_ HO897), (ra_ HO900), (la_ BK884), (la_ BK885), (la_ BK901), GW901.out, GE901.out, NB884_901.out, NB901_884.out, NB885_901.out, NB901_885.out, (bb3_ HB GE884 GE885 GE901)⟩)
      rintro ⟨v893, v896, v899, gb901⟩ w29 ⟨hS_, h0_, h1_, h2_, h3_, h4_, h5_, h6_, h7_, h8_, h9_, h10_, h11_, h12_⟩
      have n0_ : Aside0 (Kd.R Kd.string 9 w29 w.heap.size (fun _ => True) v893 t892) := ⟨h0_⟩
      have n1_ : Aside0 (Kd.R k25 25 w29 w.heap.size (fun k_ => some k_ ≠ (v899 : Value).ownBlock) v896 t895) := ⟨h1_⟩
      have n2_ : Aside0 (Kd.R k25 25 w29 w.heap.size (fun k_ => some k_ ≠ (v896 : Value).ownBlock) v899 t898) := ⟨h2_⟩
      have n3_ : Aside0 (w29.heap[gb884]? = some (.cells #[.slice A0_0 l0_0.length c0_0, .slice A0_1 l0_1.length c0_1, .slice A0_2 l0_2.length c0_2] 35 (0, 0))) := ⟨h3_⟩
      have n4_ : Aside0 (w29.heap[gb885]? = some (.cells #[.slice none 0 0, .slice none 0 0, .slice none 0 0] 35 (0, 0))) := ⟨h4_⟩
      have n5_ : Aside0 (w29.heap[gb901]? = some (.cells #[.slice none 0 0, .slice none 0 0, .slice none 0 0] 35 (0, 0))) := ⟨h5_⟩
      have n6_ : Aside0 (w.heap.size ≤ gb901) := ⟨h6_⟩
      have n7_ : Aside0 (w.heap.size ≤ gb901) := ⟨h7_⟩
      have n8_ : Aside0 (gb884 ≠ gb901) := ⟨h8_⟩
      have n9_ : Aside0 (gb901 ≠ gb884) := ⟨h9_⟩
      have n10_ : Aside0 (gb885 ≠ gb901) := ⟨h10_⟩
      have n11_ : Aside0 (gb901 ≠ gb885) := ⟨h11_⟩
      have n12_ : Aside0 (Below w.heap.size w w29) := ⟨h12_⟩
      clear BK884
      clear BK885
      clear HB
      clear h0_ h1_ h2_ h3_ h4_ h5_ h6_ h7_ h8_ h9_ h10_ h11_ h12_
      have HO894 := n0_
      have HO897 := n1_
      have HO900 := n2_
      have BK884 := n3_
      have BK885 := n4_
      have BK901 := n5_
      have GW901 := n6_
      have GE901 := n7_
      have NB884_901 := n8_
      have NB901_884 := n9_
      have NB885_901 := n10_
      have NB901_885 := n11_
      have HB := n12_
      clear n0_ n1_ n2_ n3_ n4_ n5_ n6_ n7_ n8_ n9_ n10_ n11_ n12_
      have hHeld : w29.cell? ⟨gb884, 0, none⟩ = some (.slice A0_0 l0_0.length c0_0) ∧ w29.cell? ⟨gb884, 1, none⟩ = some (.slice A0_1 l0_1.length c0_1) ∧ w29.cell? ⟨gb884, 2, none⟩ = some (.slice A0_2 l0_2.length c0_2) := hS_
      obtain ⟨Ao30, co30, eo30⟩ := Kd.R_slice HO894.out
      (first | subst eo30 | (injection eo30 with f1_ f2_ f3_; have f4_ := f1_.symm; have f5_ := f3_.symm; clear f1_ f2_ f3_; subst f4_; subst f5_))
      obtain ⟨Ao32, co32, eo32⟩ := Kd.R_slice HO897.out
      (first | subst eo32 | (injection eo32 with f1_ f2_ f3_; have f4_ := f1_.symm; have f5_ := f3_.symm; clear f1_ f2_ f3_; subst f4_; subst f5_))
      obtain ⟨Ao34, co34, eo34⟩ := Kd.R_slice HO900.out
      (first | subst eo34 | (injection eo34 with f1_ f2_ f3_; have f4_ := f1_.symm; have f5_ := f3_.symm; clear f1_ f2_ f3_; subst f4_; subst f5_))
      refine norm_ (a' := ?_) ?_ ?_
      rotate_left
      ·simp only [putAll, Act.put, List.setIfInBounds_toArray, List.set_cons_zero, List.set_cons_succ]
       rfl
      refine one_ (i := 9) (N := none) #[true, true, true, true, true, true, true, true, true, true] rfl rfl (one_of HT_.out (by kernel_rfl)) (by decide) (fun K hK => ?_)
      have hs31 : w29.cell? ⟨gb901, 0, none⟩ = some (.slice none 0 0) := (blk_cell BK901.out 0).trans rfl
      have hfs31 := blk_frozen BK901.out 0
      have hns31_0 := NB884_901.out
      have hns31_1 := NB885_901.out
      have hms31_0 := NB901_884.out
      have hms31_1 := NB901_885.out
      have hs33 : w29.cell? ⟨gb901, 1, none⟩ = some (.slice none 0 0) := (blk_cell BK901.out 1).trans rfl
      have hfs33 := blk_frozen BK901.out 1
      have hns33_0 := NB884_901.out
      have hns33_1 := NB885_901.out
      have hms33_0 := NB901_884.out
      have hms33_1 := NB901_885.out
      have hs35 : w29.cell? ⟨gb901, 2, none⟩ = some (.slice none 0 0) := (blk_cell BK901.out 2).trans rfl
      have hfs35 := blk_frozen BK901.out 2
      have hns35_0 := NB884_901.out
      have hns35_1 := NB885_901.out
      have hms35_0 := NB901_884.out
      have hms35_1 := NB901_885.out
      refine skip_ (w1 := ?_) (by rfl) rfl ?_ ?_
      rotate_left
      ·go_simp
       rfl
      refine hK.out _ _ ⟨((cell_far (p := ⟨gb901, _, none⟩) NB884_901.out _).trans (((cell_far (p := ⟨gb901, _, none⟩) NB884_901.out _).trans (((cell_far (p := ⟨gb901, _, none⟩) NB884_901.out _).trans (hHeld.1)))))), ((cell_far (p := ⟨gb901, _, none⟩) NB884_901.out _).trans (((cell_far (p := ⟨gb901, _, none⟩) NB884_901.out _).trans (((cell_far (p := ⟨gb901, _, none⟩) NB884_901.out _).trans (hHeld.2.1)))))), ((cell_far (p := ⟨gb901, _, none⟩) NB884_901.out _).trans (((cell_far (p := ⟨gb901, _, none⟩) NB884_901.out _).trans (((cell_far (p := ⟨gb901, _, none⟩) NB884_901.out _).trans (hHeld.2.2))))))⟩ (fun hHeld => ?_)
      clear hK K
      refine done_ (done_of HT_.out (by kernel_rfl)) ?_
      try go_wp2
      have n0_ : Aside0 (Kd.R Kd.string 9 (((w29.setCell ⟨gb901, 0, none⟩ (.slice Ao30 t892.length co30)).setCell ⟨gb901, 1, none⟩ (.slice Ao32 t895.length co32)).setCell ⟨gb901, 2, none⟩ (.slice Ao34 t898.length co34)) w.heap.size (fun _ => True) (.slice Ao30 t892.length co30) t892) := ⟨by (with_reducible repeat (first | apply rA_ | apply rN_ | apply rD_)); exact Kd.R_mono (fr_ (fr_ (fr_ (ft_ HO894 BK901) 0 (.slice Ao30 t892.length co30)) 1 (.slice Ao32 t895.length co32)) 2 (.slice Ao34 t898.length co34)) (fun _ hk => trivial)⟩
      have n1_ : Aside0 (Kd.R k25 25 (((w29.setCell ⟨gb901, 0, none⟩ (.slice Ao30 t892.length co30)).setCell ⟨gb901, 1, none⟩ (.slice Ao32 t895.length co32)).setCell ⟨gb901, 2, none⟩ (.slice Ao34 t898.length co34)) w.heap.size (fun k_ => some k_ ≠ (.slice Ao34 t898.length co34 : Value).ownBlock) (.slice Ao32 t895.length co32) t895) := ⟨by (with_reducible repeat (first | apply rA_ | apply rN_ | apply rD_)); exact Kd.R_mono (fr_ (fr_ (fr_ (ft_ HO897 BK901) 0 (.slice Ao30 t892.length co30)) 1 (.slice Ao32 t895.length co32)) 2 (.slice Ao34 t898.length co34)) (fun _ hk => hk.1)⟩
      have n2_ : Aside0 (Kd.R k25 25 (((w29.setCell ⟨gb901, 0, none⟩ (.slice Ao30 t892.length co30)).setCell ⟨gb901, 1, none⟩ (.slice Ao32 t895.length co32)).setCell ⟨gb901, 2, none⟩ (.slice Ao34 t898.length co34)) w.heap.size (fun k_ => some k_ ≠ (.slice Ao32 t895.length co32 : Value).ownBlock) (.slice Ao34 t898.length co34) t898) := ⟨by (with_reducible repeat (first | apply rA_ | apply rN_ | apply rD_)); exact Kd.R_mono (fr_ (fr_ (fr_ (ft_ HO900 BK901) 0 (.slice Ao30 t892.length co30)) 1 (.slice Ao32 t895.length co32)) 2 (.slice Ao34 t898.length co34)) (fun _ hk => hk.1)⟩
      have n3_ : Aside0 ((((w29.setCell ⟨gb901, 0, none⟩ (.slice Ao30 t892.length co30)).setCell ⟨gb901, 1, none⟩ (.slice Ao32 t895.length co32)).setCell ⟨gb901, 2, none⟩ (.slice Ao34 t898.length co34)).heap[gb884]? = some (.cells #[.slice A0_0 l0_0.length c0_0, .slice A0_1 l0_1.length c0_1, .slice A0_2 l0_2.length c0_2] 35 (0, 0))) := ⟨by (with_reducible repeat (first | apply lN_ | apply lD_ | apply lA_)); refine blk_far ?_ NB884_901.out _; (with_reducible repeat (first | apply lN_ | apply lD_ | apply lA_)); refine blk_far ?_ NB884_901.out _; (with_reducible repeat (first | apply lN_ | apply lD_ | apply lA_)); refine blk_far ?_ NB884_901.out _; (with_reducible repeat (first | apply lN_ | apply lD_ | apply lA_)); exact BK884.out⟩
      have n4_ : Aside0 ((((w29.setCell ⟨gb901, 0, none⟩ (.slice Ao30 t892.length co30)).setCell ⟨gb901, 1, none⟩ (.slice Ao32 t895.length co32)).setCell ⟨gb901, 2, none⟩ (.slice Ao34 t898.length co34)).heap[gb885]? = some (.cells #[.slice none 0 0, .slice none 0 0, .slice none 0 0] 35 (0, 0))) := ⟨by (with_reducible repeat (first | apply lN_ | apply lD_ | apply lA_)); refine blk_far ?_ NB885_901.out _; (with_reducible repeat (first | apply lN_ | apply lD_ | apply lA_)); refine blk_far ?_ NB885_901.out _; (with_reducible repeat (first | apply lN_ | apply lD_ | apply lA_)); refine blk_far ?_ NB885_901.out _; (with_reducible repeat (first | apply lN_ | apply lD_ | apply lA_)); exact BK885.out⟩
      have n5_ : Aside0 ((((w29.setCell ⟨gb901, 0, none⟩ (.slice Ao30 t892.length co30)).setCell ⟨gb901, 1, none⟩ (.slice Ao32 t895.length co32)).setCell ⟨gb901, 2, none⟩ (.slice Ao34 t898.length co34)).heap[gb901]? = some (.cells #[.slice Ao30 t892.length co30, .slice Ao32 t895.length co32, .slice Ao34 t898.length co34] 35 (0, 0))) := ⟨by (with_reducible repeat (first | apply lN_ | apply lD_ | apply lA_)); refine blk_put (cs := #[.slice Ao30 t892.length co30, .slice Ao32 t895.length co32, .slice none 0 0]) ?_ 2 _ rfl; (with_reducible repeat (first | apply lN_ | apply lD_ | apply lA_)); refine blk_put (cs := #[.slice Ao30 t892.length co30, .slice none 0 0, .slice none 0 0]) ?_ 1 _ rfl; (with_reducible repeat (first | apply lN_ | apply lD_ | apply lA_)); refine blk_put (cs := #[.slice none 0 0, .slice none 0 0, .slice none 0 0]) ?_ 0 _ rfl; (with_reducible repeat (first | apply lN_ | apply lD_ | apply lA_)); exact BK901.out⟩
      have n6_ : Aside0 (Below w.heap.size w (((w29.setCell ⟨gb901, 0, none⟩ (.slice Ao30 t892.length co30)).setCell ⟨gb901, 1, none⟩ (.slice Ao32 t895.length co32)).setCell ⟨gb901, 2, none⟩ (.slice Ao34 t898.length co34))) := ⟨bb3_ HB GE884 GE885 GE901⟩
      (try clear HO894)
      (try clear HO897)
      (try clear HO900)
      (try clear BK884)
      (try clear BK885)
      (try clear BK901)
      (try clear HB)
      generalize (((w29.setCell ⟨gb901, 0, none⟩ (.slice Ao30 t892.length co30)).setCell ⟨gb901, 1, none⟩ (.slice Ao32 t895.length co32)).setCell ⟨gb901, 2, none⟩ (.slice Ao34 t898.length co34)) = w36 at n0_ n1_ n2_ n3_ n4_ n5_ n6_ ⊢
      have HO894 := n0_
      have HO897 := n1_
      have HO900 := n2_
      have BK884 := n3_
      have BK885 := n4_
      have BK901 := n5_
      have HB := n6_
      clear n0_ n1_ n2_ n3_ n4_ n5_ n6_
      have n0_ := Aside0.mk (Kd.R_drew HO894.out)
      have n1_ := Aside0.mk (Kd.R_drew HO897.out)
      have n2_ := Aside0.mk (Kd.R_drew HO900.out)
      have n3_ := Aside0.mk (blk_drew BK884.out)
      have n4_ := Aside0.mk (blk_drew BK885.out)
      have n5_ := Aside0.mk (blk_drew BK901.out)
      have n6_ := Aside0.mk (below_drew1 HB.out)
      clear HO894
      clear HO897
      clear HO900
      clear BK884
      clear BK885
      clear BK901
      clear HB
      have HO894 := n0_
      have HO897 := n1_
      have HO900 := n2_
      have BK884 := n3_
      have BK885 := n4_
      have BK901 := n5_
      have HB := n6_
      clear n0_ n1_ n2_ n3_ n4_ n5_ n6_
      have q38 : (a1 : Int) ≤ ((l0_1.length : Int) : Int) := of_decide_eq_true (by first | (with_reducible assumption) | assumption)
      obtain ⟨i038, hi038, _, hsz38, _⟩ := info_parts info25
      have hroom38 : l0_1.length ≤ c0_1 := HC0_1.out
      have hC38 : Kd.C k25 _ A0_1 l0_1.length l0_1 := HR0_1.out
      have hcut38 := cut_to (P := Try.prog) 33 25 .i64 Try.underlying33 hi038 A0_1 l0_1.length c0_1 a1 (of_decide_eq_true (by first | (with_reducible assumption) | assumption)) q38 hroom38
      have hr38 := Kd.C_take (m := (a1 : Int).toNat) hC38 (by omega)
      have hy38 : y902.length = (a1 : Int).toNat := (by rw [Ny902.out, List.length_take]; omega)
      rw [← Ny902.out] at hr38
      rw [← hy38] at hcut38
      have HR905 := Aside0.mk hr38
      have HC905 := Aside0.mk (show y902.length ≤ c0_1 from by omega)
      clear hr38 hC38 hroom38 hi038 hsz38
      have KY38 := Aside0.mk hy38
      clear hy38
      replace q38 := eq_true q38
      refine start_ (n := 12) (S := fun w' => w'.cell? ⟨gb884, 0, none⟩ = some (.slice A0_0 l0_0.length c0_0) ∧ w'.cell? ⟨gb884, 1, none⟩ = some (.slice A0_1 l0_1.length c0_1) ∧ w'.cell? ⟨gb884, 2, none⟩ = some (.slice A0_2 l0_2.length c0_2)) (ds := []) #[false, false, false, false, false, false, false, false, false, false, false, false] (by kernel_rfl) rfl rfl ⟨(blk_cell BK884.out 0).trans rfl, (blk_cell BK884.out 1).trans rfl, (blk_cell BK884.out 2).trans rfl⟩ (fun hHeld => ?_); refine with_tabW spec_ForgetEdits.tab4 spec_ForgetEdits.bits4 (fun HT_ HW_ => ?_)
      generalize w36.drew = w37 at HO894 HO897 HO900 BK884 BK885 BK901 HB HR905 hHeld ⊢
      refine pure_ (i := 0) (N := some 30) (v := ?_) (a' := ?_) #[true, false, false, false, false, false, false, false, false, false, false, false] rfl rfl (any_of HT_.out (by kernel_rfl)) (fun _ _ _ h => h) (Or.inl ⟨by rfl, ?_⟩) ?_ ?_
      rotate_left
      ·intro w'
       go_simp
       with_reducible rfl
      rotate_left
      ·simp only [Act.put, List.setIfInBounds_toArray, List.set_cons_zero, List.set_cons_succ, i64_w, i32_w]
       rfl
      refine pure_ (i := 2) (N := some 32) (v := ?_) (a' := ?_) #[true, false, true, false, false, false, false, false, false, false, false, false] rfl rfl (any_of HT_.out (by kernel_rfl)) (fun _ _ _ h => h) (Or.inl ⟨by rfl, ?_⟩) ?_ ?_
      rotate_left
      ·intro w'
       go_simp
       with_reducible rfl
      rotate_left
      ·simp only [Act.put, List.setIfInBounds_toArray, List.set_cons_zero, List.set_cons_succ, i64_w, i32_w]
       rfl
      refine pure_ (i := 4) (N := some 34) (v := ?_) (a' := ?_) #[true, false, true, false, true, false, false, false, false, false, false, false] rfl rfl (any_of HT_.out (by kernel_rfl)) (fun _ _ _ h => h) (Or.inl ⟨by rfl, ?_⟩) ?_ ?_
      rotate_left
      ·intro w'
       go_simp
       with_reducible rfl
      rotate_left
      ·simp only [Act.put, List.setIfInBounds_toArray, List.set_cons_zero, List.set_cons_succ, i64_w, i32_w]
       rfl
      refine take_ (i := 1) (N := some 31) (v := ?_) (a' := ?_) #[true, true, true, false, true, false, false, false, false, false, false, false] rfl rfl (take_ofW HT_.out HW_.out (by kernel_rfl)) (fun _ _ _ h => h) (Or.inl ⟨by rfl, ?_⟩) hHeld ?_ ?_
      rotate_left
      ·rintro w' ⟨s0, s1, s2⟩
       go_simp
       with_reducible rfl
      rotate_left
      ·simp only [Act.put, List.setIfInBounds_toArray, List.set_cons_zero, List.set_cons_succ, i64_w, i32_w]
       rfl
      refine take_ (i := 3) (N := some 33) (v := ?_) (a' := ?_) #[true, true, true, true, true, false, false, false, false, false, false, false] rfl rfl (take_ofW HT_.out HW_.out (by kernel_rfl)) (fun _ _ _ h => h) (Or.inl ⟨by rfl, ?_⟩) hHeld ?_ ?_
      rotate_left
      ·rintro w' ⟨s0, s1, s2⟩
       go_simp
       with_reducible rfl
      rotate_left
      ·simp only [Act.put, List.setIfInBounds_toArray, List.set_cons_zero, List.set_cons_succ, i64_w, i32_w]
       rfl
      refine pure_ (i := 5) (N := some 35) (v := ?_) (a' := ?_) #[true, true, true, true, true, true, false, false, false, false, false, false] rfl rfl (any_of HT_.out (by kernel_rfl)) (fun _ _ _ h => h) (Or.inl ⟨by rfl, ?_⟩) ?_ ?_
      rotate_left
      ·intro w'
       go_simp
       with_reducible rfl
      rotate_left
      ·simp only [Act.put, List.setIfInBounds_toArray, List.set_cons_zero, List.set_cons_succ, i64_w, i32_w]
       rfl
      refine one_ (i := 6) (N := some 36) #[true, true, true, true, true, true, true, false, false, false, false, false] rfl rfl (one_of HT_.out (by kernel_rfl)) (by decide) (fun K hK => ?_)
      refine goes_ Try.func64 (by kernel_rfl) rfl #[.slice A0_0 l0_0.length c0_0, .slice A0_1 y902.length c0_1] (by rfl) rfl rfl args_ ?_
      with_reducible refine (spec_unAfter.calls kj2 _ _ l0_0 _ _ y902 t906 t907 _ ?side1 ?side2 ?side3 ?side4 A24.out).mono ?_
      (case side1 => repeat (first | exact (Kd.C_below HR0_0.out HB.out) | (with_reducible first | apply cA_ | apply cN_ | apply cD_)))
      (case side2 => exact HC0_0.out)
      (case side3 => repeat (first | exact (Kd.C_below HR905.out HB.out) | (with_reducible first | apply cA_ | apply cN_ | apply cD_)))
      (case side4 => exact HC905.out)
      rintro e w39 ⟨v908, rfl, ho0, hb⟩
      refine ⟨_, rfl, ?_⟩
      have n0_ := Aside0.mk (Kd.R_elder' (ra_ HO894) (Kd.R_base ho0) hb)
      have n1_ := Aside0.mk (Kd.R_below (ra_ HO897) hb)
      have n2_ := Aside0.mk (Kd.R_below (ra_ HO900) hb)
      have n3_ := Aside0.mk (Kd.R_lower (Kd.R_new' ho0 (Kd.R_lt (ra_ HO894))) (below_size (bb3_ HB GE884 GE885 GE901)))
      have n4_ := Aside0.mk (lb_ BK884 hb)
      have n5_ := Aside0.mk (lb_ BK885 hb)
      have n6_ := Aside0.mk (lb_ BK901 hb)
      have n7_ := Aside0.mk (below_step (bb3_ HB GE884 GE885 GE901) hb)
      clear HO894
      clear HO897
      clear HO900
      clear BK884
      clear BK885
      clear BK901
      clear HB
      have HO894 := n0_
      have HO897 := n1_
      have HO900 := n2_
      have HO909 := n3_
      have BK884 := n4_
      have BK885 := n5_
      have BK901 := n6_
      have HB := n7_
      clear n0_ n1_ n2_ n3_ n4_ n5_ n6_ n7_
      (try clear hb)
      (try clear hb2)
      (try clear hk)
      (try clear hi)
      (try clear ho0)
      refine hK.out _ _ ⟨(blk_cell BK884.out 0).trans rfl, (blk_cell BK884.out 1).trans rfl, (blk_cell BK884.out 2).trans rfl⟩ (fun hHeld => ?_)
      clear hK K
      refine norm_ (a' := ?_) ?_ ?_
      rotate_left
      ·show Act.put _ (some 36) _ = _
       simp only [Act.put, List.setIfInBounds_toArray, List.set_cons_zero, List.set_cons_succ, i64_w, i32_w]
       rfl
      refine pure_ (i := 7) (N := some 29) (v := ?_) (a' := ?_) #[true, true, true, true, true, true, true, true, false, false, false, false] rfl rfl (any_of HT_.out (by kernel_rfl)) (fun _ _ _ h => h) (Or.inl ⟨by rfl, ?_⟩) ?_ ?_
      rotate_left
      ·intro w'
       go_simp
       with_reducible rfl
      rotate_left
      ·simp only [Act.put, List.setIfInBounds_toArray, List.set_cons_zero, List.set_cons_succ, i64_w, i32_w]
       rfl
      refine pure_ (i := 8) (N := some 37) (v := ?_) (a' := ?_) #[true, true, true, true, true, true, true, true, true, false, false, false] rfl rfl (any_of HT_.out (by kernel_rfl)) (fun _ _ _ h => h) (Or.inl ⟨by rfl, ?_⟩) ?_ ?_
      rotate_left
      ·intro w'
       go_simp
       with_reducible rfl
      rotate_left
      ·simp only [Act.put, List.setIfInBounds_toArray, List.set_cons_zero, List.set_cons_succ, i64_w, i32_w]
       rfl
      refine pure_ (i := 9) (N := some 38) (v := ?_) (a' := ?_) #[true, true, true, true, true, true, true, true, true, true, false, false] rfl rfl (any_of HT_.out (by kernel_rfl)) (fun _ _ _ h => h) (Or.inl ⟨by rfl, ?_⟩) ?_ ?_
      rotate_left
      ·intro w'
       go_simp
       with_reducible rfl
      rotate_left
      ·simp only [Act.put, List.setIfInBounds_toArray, List.set_cons_zero, List.set_cons_succ, i64_w, i32_w]
       rfl
      refine pure_ (i := 10) (N := some 7) (v := ?_) (a' := ?_) #[true, true, true, true, true, true, true, true, true, true, true, false] rfl rfl (any_of HT_.out (by kernel_rfl)) (fun _ _ _ h => h) (Or.inl ⟨by rfl, ?_⟩) ?_ ?_
      rotate_left
      ·intro w'
       go_simp
       with_reducible rfl
      rotate_left
      ·simp only [Act.put, List.setIfInBounds_toArray, List.set_cons_zero, List.set_cons_succ, i64_w, i32_w]
       rfl
      refine pure_ (i := 11) (N := some 8) (v := ?_) (a' := ?_) #[true, true, true, true, true, true, true, true, true, true, true, true] rfl rfl (any_of HT_.out (by kernel_rfl)) (fun _ _ _ h => h) (Or.inl ⟨by rfl, ?_⟩) ?_ ?_
      rotate_left
      ·intro w'
       go_simp
       with_reducible rfl
      rotate_left
      ·simp only [Act.put, List.setIfInBounds_toArray, List.set_cons_zero, List.set_cons_succ, i64_w, i32_w]
       rfl
      refine done_ (done_of HT_.out (by kernel_rfl)) ?_
      obtain ⟨Ao40, co40, eo40⟩ := Kd.R_slice HO909.out
      subst eo40
      have hnb41 := NB901_884.out
      have hnc41 := NB884_901.out
      have hnb42 := NB901_885.out
      have hnc42 := NB885_901.out
      have hcz43_0 : w39.cell? ⟨gb901, 0, none⟩ = some (.slice Ao30 t892.length co30) := (blk_cell BK901.out 0).trans rfl
      have hcz43_1 : w39.cell? ⟨gb901, 1, none⟩ = some (.slice Ao32 t895.length co32) := (blk_cell BK901.out 1).trans rfl
      have hcz43_2 : w39.cell? ⟨gb901, 2, none⟩ = some (.slice Ao34 t898.length co34) := (blk_cell BK901.out 2).trans rfl
      have hfz43_0 := blk_frozen BK901.out 0
      have hfz43_1 := blk_frozen BK901.out 1
      have hfz43_2 := blk_frozen BK901.out 2
      have hnb44 := NB885_884.out
      have hnc44 := NB884_885.out
      have hcz45_0 : w39.cell? ⟨gb885, 0, none⟩ = some (.slice none 0 0) := (blk_cell BK885.out 0).trans rfl
      have hcz45_1 : w39.cell? ⟨gb885, 1, none⟩ = some (.slice none 0 0) := (blk_cell BK885.out 1).trans rfl
      have hcz45_2 : w39.cell? ⟨gb885, 2, none⟩ = some (.slice none 0 0) := (blk_cell BK885.out 2).trans rfl
      have hfz45_0 := blk_frozen BK885.out 0
      have hfz45_1 := blk_frozen BK885.out 1
      have hfz45_2 := blk_frozen BK885.out 2
      try go_wp2
      refine bodyPost_ret (results_ct rfl _ _ gb885 35 #[.slice Ao40 t906.length co40, .slice Ao32 t895.length co32, .slice Ao34 t898.length co34] (0, 0) _ rfl (by (with_reducible repeat (first | apply lN_ | apply lD_ | apply lA_)); refine blk_put (cs := #[.slice Ao40 t906.length co40, .slice Ao32 t895.length co32, .slice none 0 0]) ?_ 2 _ rfl; (with_reducible repeat (first | apply lN_ | apply lD_ | apply lA_)); refine blk_put (cs := #[.slice Ao40 t906.length co40, .slice none 0 0, .slice none 0 0]) ?_ 1 _ rfl; (with_reducible repeat (first | apply lN_ | apply lD_ | apply lA_)); refine blk_put (cs := #[.slice none 0 0, .slice none 0 0, .slice none 0 0]) ?_ 0 _ rfl; (with_reducible repeat (first | apply lN_ | apply lD_ | apply lA_)); refine blk_far ?_ NB885_901.out _; (with_reducible repeat (first | apply lN_ | apply lD_ | apply lA_)); exact BK885.out) Try.underlying35 rfl (by kernel_rfl)) rfl ?_
      exact ⟨_, _, _, by first | rfl | (simp [errW_none, errW_some] <;> rfl) | (simp [*, errW_none, errW_some] <;> rfl), by (with_reducible repeat (first | apply rA_ | apply rN_ | apply rD_)); exact Kd.R_mono (Kd.R_far (p := ⟨gb885, 2, none⟩) (Kd.R_far (p := ⟨gb885, 1, none⟩) (Kd.R_far (p := ⟨gb885, 0, none⟩) (Kd.R_far (p := ⟨gb901, 0, none⟩) (Kd.R_types (Kd.R_types HO909.out BK901.out (by decide)) BK885.out (by decide)) (fun _ hk => hk.1.2) (.slice Ao40 t906.length co40)) (fun _ hk => hk.2) (.slice Ao40 t906.length co40)) (fun _ hk => hk.2) (.slice Ao32 t895.length co32)) (fun _ hk => hk.2) (.slice Ao34 t898.length co34)) (fun _ hk => trivial), by (with_reducible repeat (first | apply rA_ | apply rN_ | apply rD_)); exact Kd.R_mono (Kd.R_far (p := ⟨gb885, 2, none⟩) (Kd.R_far (p := ⟨gb885, 1, none⟩) (Kd.R_far (p := ⟨gb885, 0, none⟩) (Kd.R_far (p := ⟨gb901, 0, none⟩) (Kd.R_types (Kd.R_types HO897.out BK901.out (by decide)) BK885.out (by decide)) (fun _ hk => hk.1.2) (.slice Ao40 t906.length co40)) (fun _ hk => hk.2) (.slice Ao40 t906.length co40)) (fun _ hk => hk.2) (.slice Ao32 t895.length co32)) (fun _ hk => hk.2) (.slice Ao34 t898.length co34)) (fun _ hk => hk.1.1), by (with_reducible repeat (first | apply rA_ | apply rN_ | apply rD_)); exact Kd.R_mono (Kd.R_far (p := ⟨gb885, 2, none⟩) (Kd.R_far (p := ⟨gb885, 1, none⟩) (Kd.R_far (p := ⟨gb885, 0, none⟩) (Kd.R_far (p := ⟨gb901, 0, none⟩) (Kd.R_types (Kd.R_types HO900.out BK901.out (by decide)) BK885.out (by decide)) (fun _ hk => hk.1.2) (.slice Ao40 t906.length co40)) (fun _ hk => hk.2) (.slice Ao40 t906.length co40)) (fun _ hk => hk.2) (.slice Ao32 t895.length co32)) (fun _ hk => hk.2) (.slice Ao34 t898.length co34)) (fun _ hk => hk.1.1), bb3_ HB GE884 GE885 GE901⟩
     ·rw [if_neg c20] at H
      exact absurd H (by simp)
    ·rw [if_neg c19] at H
     exact absurd H (by simp)

/-! ### impl_ForgetEdits: function 42 -/
def impl_ForgetEdits.j0 : Nat → Int → Bool → List ByteArray → List (S25) → List (S25) → Option (List ByteArray × (List (S25)) × (List (S25)) × Bool)
 | 0, _, _, _, _, _ => none
 | k + 1, x1, x18, x911000, x911001, x911002 => if x18 = true then (some (([] : List ByteArray), ([] : List (S25)), ([] : List (S25)), false)) else (if 0 ≤ x1 then (if x1 ≤ (x911001.length : Int) then ((impl_made.f k x911000 (x911001.take (x1 : Int).toNat)).bind fun bt918 => ((impl_DeskEdit_69.f (x911001.drop (x1 : Int).toNat)).bind fun t926 => ((impl_DeskEdit_69.f x911002).bind fun t929 => (some (bt918.1, t926, t929, true))))) else (none)) else (none))
def impl_ForgetEdits.f (k : Nat) (l0_0 : List ByteArray) (l0_1 : List (S25)) (l0_2 : List (S25)) (a1 : Int) : Option (List ByteArray × (List (S25)) × (List (S25)) × Bool) := (impl_IsDesk.f k l0_0 l0_1 l0_2).bind fun t912 => (if t912 = true then ((impl_within.f a1 0 (l0_1.length : Int)).bind fun t913 => (impl_ForgetEdits.j0 k a1 (!t913) l0_0 l0_1 l0_2)) else (impl_ForgetEdits.j0 k a1 true l0_0 l0_1 l0_2))
theorem impl_ForgetEdits.mono_l : ∀ k, (∀ y0 y1 y2 y3 y4, LeO (impl_ForgetEdits.j0 k y0 y1 y2 y3 y4) (impl_ForgetEdits.j0 (k + 1) y0 y1 y2 y3 y4))
 | 0 => fun _ _ _ _ _ r h => by simp [impl_ForgetEdits.j0] at h
 | k + 1 => by
  have ih0 := impl_ForgetEdits.mono_l k
  ·intro y0 y1 y2 y3 y4
   unfold impl_ForgetEdits.j0
   repeat' first
   | (with_reducible exact ih0 _ _ _ _ _)
   | (with_reducible exact impl_IsDesk.mono _ _ _ _)
   | (with_reducible exact impl_made.mono _ _ _)
   | (with_reducible exact LeO.refl _)
   | (with_reducible exact LeO.none _)
   | (with_reducible refine LeO.ite ?_ ?_)
   | (with_reducible refine LeO.bind ?_ (fun _ => ?_))
   | exact ih0 _ _ _ _ _
   | exact LeO.none _
   | refine LeO.ite ?_ ?_
   | refine LeO.bind ?_ (fun _ => ?_)
theorem impl_ForgetEdits.mono : ∀ a0 a1 a2 a3 k, LeO (impl_ForgetEdits.f k a0 a1 a2 a3) (impl_ForgetEdits.f (k + 1) a0 a1 a2 a3) := by
 intro a0 a1 a2 a3 k
 have ih0 := impl_ForgetEdits.mono_l k
 unfold impl_ForgetEdits.f
 repeat' first
   | (with_reducible exact ih0 _ _ _ _ _)
   | (with_reducible exact impl_IsDesk.mono _ _ _ _)
   | (with_reducible exact impl_made.mono _ _ _)
   | (with_reducible exact LeO.refl _)
   | (with_reducible exact LeO.none _)
   | (with_reducible refine LeO.ite ?_ ?_)
   | (with_reducible refine LeO.bind ?_ (fun _ => ?_))
   | exact ih0 _ _ _ _ _
   | exact LeO.none _
   | refine LeO.ite ?_ ?_
   | refine LeO.bind ?_ (fun _ => ?_)
def impl_ForgetEdits.T3 : Bool × List (List Nat × List Nat) := (true, [([], []), ([0], [0]), ([], []), ([2], [2]), ([], []), ([3, 4], [3, 4]), ([1, 5], [1, 5]), ([6], [6]), ([7], [7]), ([7], [7]), ([8, 6, 0, 1, 2, 3, 4, 5, 6, 7, 8], [8]), ([9, 10, 0, 1, 2, 3, 4, 5, 6, 7, 8, 9, 10], [9])])
def impl_ForgetEdits.B3 : List Nat := [0, 1, 0, 4, 0, 28, 63, 127, 255, 255, 511, 2047]
theorem impl_ForgetEdits.tab3 : rtab .any (opsOf Try.f42 3) = impl_ForgetEdits.T3 := by kernel_rfl
theorem impl_ForgetEdits.bits3 : waitsOk impl_ForgetEdits.T3.2 impl_ForgetEdits.B3 = true := by kernel_rfl
def impl_ForgetEdits.T4 : Bool × List (List Nat × List Nat) := (true, [([], []), ([], []), ([1], [1]), ([], []), ([2, 3], [2, 3]), ([4], [4]), ([], []), ([6], [6]), ([7, 5], [7]), ([0, 5, 8], [0, 5, 8]), ([9, 8, 0, 1, 2, 3, 4, 5, 6, 7, 8, 9], [9]), ([10, 0, 1, 2, 3, 4, 5, 6, 7, 8, 9, 10], [])])
def impl_ForgetEdits.B4 : List Nat := [0, 0, 2, 0, 14, 30, 0, 64, 254, 511, 1023, 2047]
theorem impl_ForgetEdits.tab4 : rtab .any (opsOf Try.f42 4) = impl_ForgetEdits.T4 := by kernel_rfl
theorem impl_ForgetEdits.bits4 : waitsOk impl_ForgetEdits.T4.2 impl_ForgetEdits.B4 = true := by kernel_rfl
set_option maxHeartbeats 8000000 in
set_option maxRecDepth 100000 in
theorem impl_ForgetEdits.calls (k : Nat) (A0_0 : Option Addr) (c0_0 : Nat) (l0_0 : List ByteArray) (A0_1 : Option Addr) (c0_1 : Nat) (l0_1 : List (S25)) (A0_2 : Option Addr) (c0_2 : Nat) (l0_2 : List (S25)) (a1 : Int) (r1 : List ByteArray) (r2 : List (S25)) (r3 : List (S25)) (r4 : Bool) (w : World) (hr0_0 : Kd.C Kd.string w A0_0 l0_0.length l0_0) (hc0_0 : l0_0.length ≤ c0_0) (hr0_1 : Kd.C k25 w A0_1 l0_1.length l0_1) (hc0_1 : l0_1.length ≤ c0_1) (hr0_2 : Kd.C k25 w A0_2 l0_2.length l0_2) (hc0_2 : l0_2.length ≤ c0_2) (h : impl_ForgetEdits.f k l0_0 l0_1 l0_2 a1 = some (r1, r2, r3, r4)) :
  Calls Try.prog 42 #[.agg #[.slice A0_0 l0_0.length c0_0, .slice A0_1 l0_1.length c0_1, .slice A0_2 l0_2.length c0_2], .int .i64 a1] w fun e w' => ∃ v0_ v1_ v2_ : Value, e = .returned (.tuple #[.agg #[v0_, v1_, v2_], .bool r4]) ∧ Kd.R Kd.string 9 w' w.heap.size (fun _ => True) v0_ r1 ∧ Kd.R k25 25 w' w.heap.size (fun k_ => some k_ ≠ (v2_ : Value).ownBlock) v1_ r2 ∧ Kd.R k25 25 w' w.heap.size (fun k_ => some k_ ≠ (v1_ : Value).ownBlock) v2_ r3 ∧ Below w.heap.size w w' := by
 have hu35 := Try.underlying35
 have HR0_0 := Aside0.mk hr0_0
 have HC0_0 := Aside0.mk hc0_0
 clear hr0_0 hc0_0
 have HR0_1 := Aside0.mk hr0_1
 have HC0_1 := Aside0.mk hc0_1
 clear hr0_1 hc0_1
 have HR0_2 := Aside0.mk hr0_2
 have HC0_2 := Aside0.mk hc0_2
 clear hr0_2 hc0_2
 have HB := Aside0.mk (Below.refl w.heap.size w)
 have H : ((impl_IsDesk.f k l0_0 l0_1 l0_2).bind fun t912 => (if t912 = true then ((impl_within.f a1 0 (l0_1.length : Int)).bind fun t913 => (impl_ForgetEdits.j0 k a1 (!t913) l0_0 l0_1 l0_2)) else (impl_ForgetEdits.j0 k a1 true l0_0 l0_1 l0_2))) = some (r1, r2, r3, r4) := h
 clear h
 have HC3 := Aside0.mk H
 clear H
 go_enter Try.func42, Try.ntmps42
 go_upto_region 1 with (first | ((with_reducible refine gate_dst (N := 2) rfl ?_); (try (refine gate_guard (by rfl) ?_; dsimp only)); refine box_event ?hg (N := 2) ?hd (cs := #[.slice A0_0 l0_0.length c0_0, .slice A0_1 l0_1.length c0_1, .slice A0_2 l0_2.length c0_2]) (t := 35) ?hr ?_; (case hd => rfl); (case hg => rfl); (case hr => first | (go_simp; done) | (go_simp; rfl)); intro gb910 hg w4 hbox hb; have n0_ := Aside0.mk (bt_ HB hb); have n1_ := Aside0.mk (hbox); have n2_ := Aside0.mk ((by rw [hg]; exact (bz_ HB) : w.heap.size ≤ gb910)); have n3_ := Aside0.mk ((by rw [hg]; exact (bz_ HB) : w.heap.size ≤ gb910)); clear HB; have HB := n0_; have BK910 := n1_; have GW910 := n2_; have GE910 := n3_; clear n0_ n1_ n2_ n3_; clear hb hbox hg) | ((with_reducible refine gate_dst (N := 4) rfl ?_); (try (refine gate_guard (by rfl) ?_; dsimp only)); refine box_event ?hg (N := 4) ?hd (cs := #[.slice none 0 0, .slice none 0 0, .slice none 0 0]) (t := 35) ?hr ?_; (case hd => rfl); (case hg => rfl); (case hr => first | (go_simp; done) | (go_simp; rfl)); intro gb911 hg w5 hbox hb; have n0_ := Aside0.mk (lb_ BK910 hb); have n1_ := Aside0.mk (below_step (bb1_ HB GE910) hb); have n2_ := Aside0.mk (hbox); have n3_ := Aside0.mk ((by rw [hg]; exact (below_size (bb1_ HB GE910)) : w.heap.size ≤ gb911)); have n4_ := Aside0.mk ((by rw [hg]; exact (below_size (bb1_ HB GE910)) : w.heap.size ≤ gb911)); have n5_ := Aside0.mk ((by rw [hg]; exact Nat.ne_of_lt (blk_lt (g := gb910) (o := .cells #[.slice A0_0 l0_0.length c0_0, .slice A0_1 l0_1.length c0_1, .slice A0_2 l0_2.length c0_2] 35 (0, 0)) (la_ BK910)) : gb910 ≠ gb911)); have n6_ := Aside0.mk ((by rw [hg]; exact Nat.ne_of_gt (blk_lt (g := gb910) (o := .cells #[.slice A0_0 l0_0.length c0_0, .slice A0_1 l0_1.length c0_1, .slice A0_2 l0_2.length c0_2] 35 (0, 0)) (la_ BK910)) : gb911 ≠ gb910)); clear BK910; clear HB; have BK910 := n0_; have HB := n1_; have BK911 := n2_; have GW911 := n3_; have GE911 := n4_; have NB910_911 := n5_; have NB911_910 := n6_; clear n0_ n1_ n2_ n3_ n4_ n5_ n6_; clear hb hbox hg))
 (try simp only [Act.put, List.setIfInBounds_toArray, List.set_cons_zero, List.set_cons_succ])
 go_cut [18] (fun v18 wc => ∃ (kq : Nat) (x18_2 : Bool), v18 = .bool x18_2 ∧ Aside0 (impl_ForgetEdits.j0 kq a1 x18_2 l0_0 l0_1 l0_2 = some (r1, r2, r3, r4)) ∧ Aside0 (kq ≤ k) ∧ Aside0 (wc.heap[gb910]? = some (.cells #[(.slice A0_0 l0_0.length c0_0), (.slice A0_1 l0_1.length c0_1), (.slice A0_2 l0_2.length c0_2)] 35 (0, 0))) ∧ Aside0 (wc.heap[gb911]? = some (.cells #[(.slice none 0 0), (.slice none 0 0), (.slice none 0 0)] 35 (0, 0))) ∧ Aside0 (Below w.heap.size w wc))
 case first =>
  have H := HC3.out
  clear HC3
  replace H := Option.bind_eq_some_iff.mp H
  obtain ⟨t912, A60, H⟩ := H
  try dsimp only at H
  have A6 := Aside0.mk A60
  clear A60
  by_cases c7 : t912 = true
  ·subst c7
   have H1 : ((impl_within.f a1 0 (l0_1.length : Int)).bind fun t913 => (impl_ForgetEdits.j0 k a1 (!t913) l0_0 l0_1 l0_2)) = some (r1, r2, r3, r4) := by rw [if_pos rfl] at H; exact H
   clear H
   have H := H1
   clear H1
   replace H := Option.bind_eq_some_iff.mp H
   obtain ⟨t913, A80, H⟩ := H
   try dsimp only at H
   have A8 := Aside0.mk A80
   clear A80
   have H' := Aside0.mk H
   clear H
   have hnb9 := NB910_911.out
   have hnc9 := NB911_910.out
   have hcz10_0 : w5.cell? ⟨gb910, 0, none⟩ = some (.slice A0_0 l0_0.length c0_0) := (blk_cell BK910.out 0).trans rfl
   have hcz10_1 : w5.cell? ⟨gb910, 1, none⟩ = some (.slice A0_1 l0_1.length c0_1) := (blk_cell BK910.out 1).trans rfl
   have hcz10_2 : w5.cell? ⟨gb910, 2, none⟩ = some (.slice A0_2 l0_2.length c0_2) := (blk_cell BK910.out 2).trans rfl
   have hfz10_0 := blk_frozen BK910.out 0
   have hfz10_1 := blk_frozen BK910.out 1
   have hfz10_2 := blk_frozen BK910.out 2
   go_wp2_with (first | ((with_reducible refine gate_callee (f := 31) rfl ?_); refine goesL_ (some 9) rfl rfl Try.func31 (by kernel_rfl) rfl #[.agg #[.slice A0_0 l0_0.length c0_0, .slice A0_1 l0_1.length c0_1, .slice A0_2 l0_2.length c0_2]] rfl args_ ?_; (with_reducible refine (impl_IsDesk.calls k _ _ l0_0 _ _ l0_1 _ _ l0_2 true _ ?side1 ?side2 ?side3 ?side4 ?side5 ?side6 A6.out).mono ?_); (case side1 => repeat (first | exact (Kd.C_below HR0_0.out HB.out) | (with_reducible first | apply cA_ | apply cN_ | apply cD_))); (case side2 => exact HC0_0.out); (case side3 => repeat (first | exact (Kd.C_below HR0_1.out HB.out) | (with_reducible first | apply cA_ | apply cN_ | apply cD_))); (case side4 => exact HC0_1.out); (case side5 => repeat (first | exact (Kd.C_below HR0_2.out HB.out) | (with_reducible first | apply cA_ | apply cN_ | apply cD_))); (case side6 => exact HC0_2.out); rintro e w11 ⟨rfl, hb⟩; refine ⟨_, rfl, ?_⟩; have n0_ := Aside0.mk (lb_ BK910 hb); have n1_ := Aside0.mk (lb_ BK911 hb); have n2_ := Aside0.mk (below_step (bb2_ HB GE910 GE911) hb); clear BK910; clear BK911; clear HB; have BK910 := n0_; have BK911 := n1_; have HB := n2_; clear n0_ n1_ n2_; (try clear hb); (try clear hb2); (try clear hk); (try clear hi); have hcz12_0 : w11.cell? ⟨gb910, 0, none⟩ = some (.slice A0_0 l0_0.length c0_0) := (blk_cell BK910.out 0).trans rfl; have hcz12_1 : w11.cell? ⟨gb910, 1, none⟩ = some (.slice A0_1 l0_1.length c0_1) := (blk_cell BK910.out 1).trans rfl; have hcz12_2 : w11.cell? ⟨gb910, 2, none⟩ = some (.slice A0_2 l0_2.length c0_2) := (blk_cell BK910.out 2).trans rfl; have hfz12_0 := blk_frozen BK910.out 0; have hfz12_1 := blk_frozen BK910.out 1; have hfz12_2 := blk_frozen BK910.out 2) | (go_at_call 66; (with_reducible refine (impl_within.calls a1 0 (l0_1.length : Int) t913 _ A8.out).mono ?_); rintro e w' ⟨rfl, ⟨nd, rfl⟩⟩))
   go_meet
   case rel => exact ⟨_, (!t913), (by first | rfl | (simp; done) | (simp [*]; done)), H', ⟨by first | omega | exact Nat.le_refl _⟩, ⟨by (with_reducible repeat (first | apply lN_ | apply lD_ | apply lA_)); exact BK910.out⟩, ⟨by (with_reducible repeat (first | apply lN_ | apply lD_ | apply lA_)); exact BK911.out⟩, ⟨bb2_ HB GE910 GE911⟩⟩
  ·replace c7 := Bool.eq_false_iff.mpr c7
   subst c7
   have H1 : (impl_ForgetEdits.j0 k a1 true l0_0 l0_1 l0_2) = some (r1, r2, r3, r4) := by rw [if_neg (show ¬ (false = true) by decide)] at H; exact H
   clear H
   have H := H1
   clear H1
   have H' := Aside0.mk H
   clear H
   have hnb13 := NB910_911.out
   have hnc13 := NB911_910.out
   have hcz14_0 : w5.cell? ⟨gb910, 0, none⟩ = some (.slice A0_0 l0_0.length c0_0) := (blk_cell BK910.out 0).trans rfl
   have hcz14_1 : w5.cell? ⟨gb910, 1, none⟩ = some (.slice A0_1 l0_1.length c0_1) := (blk_cell BK910.out 1).trans rfl
   have hcz14_2 : w5.cell? ⟨gb910, 2, none⟩ = some (.slice A0_2 l0_2.length c0_2) := (blk_cell BK910.out 2).trans rfl
   have hfz14_0 := blk_frozen BK910.out 0
   have hfz14_1 := blk_frozen BK910.out 1
   have hfz14_2 := blk_frozen BK910.out 2
   go_wp2_with (first | ((with_reducible refine gate_callee (f := 31) rfl ?_); refine goesL_ (some 9) rfl rfl Try.func31 (by kernel_rfl) rfl #[.agg #[.slice A0_0 l0_0.length c0_0, .slice A0_1 l0_1.length c0_1, .slice A0_2 l0_2.length c0_2]] rfl args_ ?_; (with_reducible refine (impl_IsDesk.calls k _ _ l0_0 _ _ l0_1 _ _ l0_2 false _ ?side1 ?side2 ?side3 ?side4 ?side5 ?side6 A6.out).mono ?_); (case side1 => repeat (first | exact (Kd.C_below HR0_0.out HB.out) | (with_reducible first | apply cA_ | apply cN_ | apply cD_))); (case side2 => exact HC0_0.out); (case side3 => repeat (first | exact (Kd.C_below HR0_1.out HB.out) | (with_reducible first | apply cA_ | apply cN_ | apply cD_))); (case side4 => exact HC0_1.out); (case side5 => repeat (first | exact (Kd.C_below HR0_2.out HB.out) | (with_reducible first | apply cA_ | apply cN_ | apply cD_))); (case side6 => exact HC0_2.out); rintro e w15 ⟨rfl, hb⟩; refine ⟨_, rfl, ?_⟩; have n0_ := Aside0.mk (lb_ BK910 hb); have n1_ := Aside0.mk (lb_ BK911 hb); have n2_ := Aside0.mk (below_step (bb2_ HB GE910 GE911) hb); clear BK910; clear BK911; clear HB; have BK910 := n0_; have BK911 := n1_; have HB := n2_; clear n0_ n1_ n2_; (try clear hb); (try clear hb2); (try clear hk); (try clear hi)))
   go_meet
   case rel => exact ⟨_, (true), (by first | rfl | (simp; done) | (simp [*]; done)), H', ⟨by first | omega | exact Nat.le_refl _⟩, ⟨by (with_reducible repeat (first | apply lN_ | apply lD_ | apply lA_)); exact BK910.out⟩, ⟨by (with_reducible repeat (first | apply lN_ | apply lD_ | apply lA_)); exact BK911.out⟩, ⟨bb2_ HB GE910 GE911⟩⟩
 case rest =>
  clear HC3
  try clear c1
  try clear p2
  try clear c3
  try clear c4
  try clear c7
  try clear c9
  try clear c13
  try clear hcz10_0
  try clear hcz10_1
  try clear hcz10_2
  try clear hcz12_0
  try clear hcz12_1
  try clear hcz12_2
  try clear hcz14_0
  try clear hcz14_1
  try clear hcz14_2
  try clear hfz10_0
  try clear hfz10_1
  try clear hfz10_2
  try clear hfz12_0
  try clear hfz12_1
  try clear hfz12_2
  try clear hfz14_0
  try clear hfz14_1
  try clear hfz14_2
  obtain ⟨kq, x18_2, rfl, HA, HJ2, BK910, BK911, HB⟩ := hcut
  cases kq with
  | zero => exact absurd HA.out (by simp [impl_ForgetEdits.j0])
  | succ kj2 =>
   have H := HA.out
   clear HA
   simp only [impl_ForgetEdits.j0] at H
   by_cases c16 : x18_2 = true
   ·subst c16
    have H1 : (some (([] : List ByteArray), ([] : List (S25)), ([] : List (S25)), false)) = some (r1, r2, r3, r4) := by rw [if_pos rfl] at H; exact H
    clear H
    have H := H1
    clear H1
    simp only [Option.some.injEq, Prod.mk.injEq] at H
    obtain ⟨rfl, rfl, rfl, rfl⟩ := H
    have hnb17 := NB911_910.out
    have hnc17 := NB910_911.out
    have hcz18_0 : wc.cell? ⟨gb911, 0, none⟩ = some (.slice none 0 0) := (blk_cell BK911.out 0).trans rfl
    have hcz18_1 : wc.cell? ⟨gb911, 1, none⟩ = some (.slice none 0 0) := (blk_cell BK911.out 1).trans rfl
    have hcz18_2 : wc.cell? ⟨gb911, 2, none⟩ = some (.slice none 0 0) := (blk_cell BK911.out 2).trans rfl
    have hfz18_0 := blk_frozen BK911.out 0
    have hfz18_1 := blk_frozen BK911.out 1
    have hfz18_2 := blk_frozen BK911.out 2
    go_wp2
    refine bodyPost_ret (results_ct rfl _ _ gb911 35 #[.slice none 0 0, .slice none 0 0, .slice none 0 0] (0, 0) _ rfl (by (with_reducible repeat (first | apply lN_ | apply lD_ | apply lA_)); refine blk_put (cs := #[.slice none 0 0, .slice none 0 0, .slice none 0 0]) ?_ 2 _ rfl; (with_reducible repeat (first | apply lN_ | apply lD_ | apply lA_)); refine blk_put (cs := #[.slice none 0 0, .slice none 0 0, .slice none 0 0]) ?_ 1 _ rfl; (with_reducible repeat (first | apply lN_ | apply lD_ | apply lA_)); refine blk_put (cs := #[.slice none 0 0, .slice none 0 0, .slice none 0 0]) ?_ 0 _ rfl; (with_reducible repeat (first | apply lN_ | apply lD_ | apply lA_)); exact BK911.out) Try.underlying35 rfl (by kernel_rfl)) rfl ?_
    exact ⟨_, _, _, by first | rfl | (simp [errW_none, errW_some] <;> rfl) | (simp [*, errW_none, errW_some] <;> rfl), by first | exact Kd.R_nil _ _ _ _ _ | exact Kd.N_nil _ _ _ _ _ | exact Kd.V_nil _ _ _ _ _ | exact Kd.Q_nil _ _ _ _ _ | exact Kd.S_nil _ _ _ _ _, by first | exact Kd.R_nil _ _ _ _ _ | exact Kd.N_nil _ _ _ _ _ | exact Kd.V_nil _ _ _ _ _ | exact Kd.Q_nil _ _ _ _ _ | exact Kd.S_nil _ _ _ _ _, by first | exact Kd.R_nil _ _ _ _ _ | exact Kd.N_nil _ _ _ _ _ | exact Kd.V_nil _ _ _ _ _ | exact Kd.Q_nil _ _ _ _ _ | exact Kd.S_nil _ _ _ _ _, bb2_ HB GE910 GE911⟩
   ·replace c16 := Bool.eq_false_iff.mpr c16
    subst c16
    have H1 : (if 0 ≤ a1 then (if a1 ≤ (l0_1.length : Int) then ((impl_made.f kj2 l0_0 (l0_1.take (a1 : Int).toNat)).bind fun bt918 => ((impl_DeskEdit_69.f (l0_1.drop (a1 : Int).toNat)).bind fun t926 => ((impl_DeskEdit_69.f l0_2).bind fun t929 => (some (bt918.1, t926, t929, true))))) else (none)) else (none)) = some (r1, r2, r3, r4) := by rw [if_neg (show ¬ (false = true) by decide)] at H; exact H
    clear H
    have H := H1
    clear H1
    by_cases c19 : 0 ≤ a1
    ·rw [if_pos c19] at H
     have c19b0 := eq_true c19
     have c19b1 : decide (0 ≤ a1) = true := decide_eq_true c19
     clear c19
     by_cases c20 : a1 ≤ (l0_1.length : Int)
     ·rw [if_pos c20] at H
      have c20b0 := eq_true c20
      have c20b1 : decide (a1 ≤ (l0_1.length : Int)) = true := decide_eq_true c20
      clear c20
      obtain ⟨y914, hy914⟩ : ∃ y_ : List (S25), y_ = (l0_1.take (a1 : Int).toNat) := ⟨_, rfl⟩
      replace H : ((impl_made.f kj2 l0_0 y914).bind fun bt918 => ((impl_DeskEdit_69.f (l0_1.drop (a1 : Int).toNat)).bind fun t926 => ((impl_DeskEdit_69.f l0_2).bind fun t929 => (some (bt918.1, t926, t929, true))))) = some (r1, r2, r3, r4) := by first | (rw [hy914]; with_reducible exact H) | (have H2_ := (Option.bind_some _ _).symm.trans H; rw [hy914]; with_reducible exact H2_) | (have H2_ := (Option.bind_some _ _).symm.trans H; with_reducible exact H2_) | with_reducible exact H | (rw [hy914]; exact H) | exact H
      have Ny914 := Aside0.mk hy914
      clear hy914
      replace H := Option.bind_eq_some_iff.mp H
      obtain ⟨⟨t918, t919⟩, A210, H⟩ := H
      try dsimp only at H
      have A21 := Aside0.mk A210
      clear A210
      have c22b0 := eq_true (of_decide_eq_true (by first | (with_reducible assumption) | assumption) : 0 ≤ a1)
      have c23b0 := eq_true (of_decide_eq_true (by first | (with_reducible assumption) | assumption) : a1 ≤ (l0_1.length : Int))
      obtain ⟨y922, hy922⟩ : ∃ y_ : List (S25), y_ = (l0_1.drop (a1 : Int).toNat) := ⟨_, rfl⟩
      replace H : ((impl_DeskEdit_69.f y922).bind fun t926 => ((impl_DeskEdit_69.f l0_2).bind fun t929 => (some (t918, t926, t929, true)))) = some (r1, r2, r3, r4) := by first | (rw [hy922]; with_reducible exact H) | (have H2_ := (Option.bind_some _ _).symm.trans H; rw [hy922]; with_reducible exact H2_) | (have H2_ := (Option.bind_some _ _).symm.trans H; with_reducible exact H2_) | with_reducible exact H | (rw [hy922]; exact H) | exact H
      have Ny922 := Aside0.mk hy922
      clear hy922
      replace H := Option.bind_eq_some_iff.mp H
      obtain ⟨t926, A240, H⟩ := H
      try dsimp only at H
      have A24 := Aside0.mk A240
      clear A240
      replace H := Option.bind_eq_some_iff.mp H
      obtain ⟨t929, A250, H⟩ := H
      try dsimp only at H
      have A25 := Aside0.mk A250
      clear A250
      simp only [Option.some.injEq, Prod.mk.injEq] at H
      obtain ⟨rfl, rfl, rfl, rfl⟩ := H
      try go_wp2
      have n0_ := Aside0.mk (blk_drew BK910.out)
      have n1_ := Aside0.mk (blk_drew BK911.out)
      have n2_ := Aside0.mk (below_drew1 HB.out)
      clear BK910
      clear BK911
      clear HB
      have BK910 := n0_
      have BK911 := n1_
      have HB := n2_
      clear n0_ n1_ n2_
      have q27 : (a1 : Int) ≤ ((l0_1.length : Int) : Int) := of_decide_eq_true (by first | (with_reducible assumption) | assumption)
      obtain ⟨i027, hi027, _, hsz27, _⟩ := info_parts info25
      have hroom27 : l0_1.length ≤ c0_1 := HC0_1.out
      have hC27 : Kd.C k25 _ A0_1 l0_1.length l0_1 := HR0_1.out
      have hcut27 := cut_to (P := Try.prog) 33 25 .i64 Try.underlying33 hi027 A0_1 l0_1.length c0_1 a1 (of_decide_eq_true (by first | (with_reducible assumption) | assumption)) q27 hroom27
      have hr27 := Kd.C_take (m := (a1 : Int).toNat) hC27 (by omega)
      have hy27 : y914.length = (a1 : Int).toNat := (by rw [Ny914.out, List.length_take]; omega)
      rw [← Ny914.out] at hr27
      rw [← hy27] at hcut27
      have HR917 := Aside0.mk hr27
      have HC917 := Aside0.mk (show y914.length ≤ c0_1 from by omega)
      clear hr27 hC27 hroom27 hi027 hsz27
      have KY27 := Aside0.mk hy27
      clear hy27
      replace q27 := eq_true q27
      refine start_ (n := 12) (S := fun w' => w'.cell? ⟨gb910, 0, none⟩ = some (.slice A0_0 l0_0.length c0_0) ∧ w'.cell? ⟨gb910, 1, none⟩ = some (.slice A0_1 l0_1.length c0_1) ∧ w'.cell? ⟨gb910, 2, none⟩ = some (.slice A0_2 l0_2.length c0_2)) (ds := []) #[false, false, false, false, false, false, false, false, false, false, false, false] (by kernel_rfl) rfl rfl ⟨(blk_cell BK910.out 0).trans rfl, (blk_cell BK910.out 1).trans rfl, (blk_cell BK910.out 2).trans rfl⟩ (fun hHeld => ?_); refine with_tabW impl_ForgetEdits.tab3 impl_ForgetEdits.bits3 (fun HT_ HW_ => ?_)
      generalize wc.drew = w26 at BK910 BK911 HB HR917 hHeld ⊢
      refine pure_ (i := 0) (N := some 21) (v := ?_) (a' := ?_) #[true, false, false, false, false, false, false, false, false, false, false, false] rfl rfl (any_of HT_.out (by kernel_rfl)) (fun _ _ _ h => h) (Or.inl ⟨by rfl, ?_⟩) ?_ ?_
      rotate_left
      ·intro w'
       go_simp
       with_reducible rfl
      rotate_left
      ·simp only [Act.put, List.setIfInBounds_toArray, List.set_cons_zero, List.set_cons_succ, i64_w, i32_w]
       rfl
      refine pure_ (i := 2) (N := some 23) (v := ?_) (a' := ?_) #[true, false, true, false, false, false, false, false, false, false, false, false] rfl rfl (any_of HT_.out (by kernel_rfl)) (fun _ _ _ h => h) (Or.inl ⟨by rfl, ?_⟩) ?_ ?_
      rotate_left
      ·intro w'
       go_simp
       with_reducible rfl
      rotate_left
      ·simp only [Act.put, List.setIfInBounds_toArray, List.set_cons_zero, List.set_cons_succ, i64_w, i32_w]
       rfl
      refine pure_ (i := 4) (N := some 25) (v := ?_) (a' := ?_) #[true, false, true, false, true, false, false, false, false, false, false, false] rfl rfl (any_of HT_.out (by kernel_rfl)) (fun _ _ _ h => h) (Or.inl ⟨by rfl, ?_⟩) ?_ ?_
      rotate_left
      ·intro w'
       go_simp
       with_reducible rfl
      rotate_left
      ·simp only [Act.put, List.setIfInBounds_toArray, List.set_cons_zero, List.set_cons_succ, i64_w, i32_w]
       rfl
      refine take_ (i := 1) (N := some 22) (v := ?_) (a' := ?_) #[true, true, true, false, true, false, false, false, false, false, false, false] rfl rfl (take_ofW HT_.out HW_.out (by kernel_rfl)) (fun _ _ _ h => h) (Or.inl ⟨by rfl, ?_⟩) hHeld ?_ ?_
      rotate_left
      ·rintro w' ⟨s0, s1, s2⟩
       go_simp
       with_reducible rfl
      rotate_left
      ·simp only [Act.put, List.setIfInBounds_toArray, List.set_cons_zero, List.set_cons_succ, i64_w, i32_w]
       rfl
      refine take_ (i := 3) (N := some 24) (v := ?_) (a' := ?_) #[true, true, true, true, true, false, false, false, false, false, false, false] rfl rfl (take_ofW HT_.out HW_.out (by kernel_rfl)) (fun _ _ _ h => h) (Or.inl ⟨by rfl, ?_⟩) hHeld ?_ ?_
      rotate_left
      ·rintro w' ⟨s0, s1, s2⟩
       go_simp
       with_reducible rfl
      rotate_left
      ·simp only [Act.put, List.setIfInBounds_toArray, List.set_cons_zero, List.set_cons_succ, i64_w, i32_w]
       rfl
      refine pure_ (i := 5) (N := some 26) (v := ?_) (a' := ?_) #[true, true, true, true, true, true, false, false, false, false, false, false] rfl rfl (any_of HT_.out (by kernel_rfl)) (fun _ _ _ h => h) (Or.inl ⟨by rfl, ?_⟩) ?_ ?_
      rotate_left
      ·intro w'
       go_simp
       with_reducible rfl
      rotate_left
      ·simp only [Act.put, List.setIfInBounds_toArray, List.set_cons_zero, List.set_cons_succ, i64_w, i32_w]
       rfl
      refine one_ (i := 6) (N := some 27) #[true, true, true, true, true, true, true, false, false, false, false, false] rfl rfl (one_of HT_.out (by kernel_rfl)) (by decide) (fun K hK => ?_)
      refine goes_ Try.func61 (by kernel_rfl) rfl #[.slice A0_0 l0_0.length c0_0, .slice A0_1 y914.length c0_1] (by rfl) rfl rfl args_ ?_
      with_reducible refine (impl_made.calls kj2 _ _ l0_0 _ _ y914 t918 t919 _ ?side1 ?side2 ?side3 ?side4 A21.out).mono ?_
      (case side1 => repeat (first | exact (Kd.C_below HR0_0.out HB.out) | (with_reducible first | apply cA_ | apply cN_ | apply cD_)))
      (case side2 => exact HC0_0.out)
      (case side3 => repeat (first | exact (Kd.C_below HR917.out HB.out) | (with_reducible first | apply cA_ | apply cN_ | apply cD_)))
      (case side4 => exact HC917.out)
      rintro e w28 ⟨v920, rfl, ho0, hb⟩
      refine ⟨_, rfl, ?_⟩
      have n0_ := Aside0.mk (Kd.R_lower ho0 (below_size (bb2_ HB GE910 GE911)))
      have n1_ := Aside0.mk (lb_ BK910 hb)
      have n2_ := Aside0.mk (lb_ BK911 hb)
      have n3_ := Aside0.mk (below_step (bb2_ HB GE910 GE911) hb)
      clear BK910
      clear BK911
      clear HB
      have HO921 := n0_
      have BK910 := n1_
      have BK911 := n2_
      have HB := n3_
      clear n0_ n1_ n2_ n3_
      (try clear hb)
      (try clear hb2)
      (try clear hk)
      (try clear hi)
      (try clear ho0)
      refine hK.out _ _ ⟨(blk_cell BK910.out 0).trans rfl, (blk_cell BK910.out 1).trans rfl, (blk_cell BK910.out 2).trans rfl⟩ (fun hHeld => ?_)
      clear hK K
      refine norm_ (a' := ?_) ?_ ?_
      rotate_left
      ·show Act.put _ (some 27) _ = _
       simp only [Act.put, List.setIfInBounds_toArray, List.set_cons_zero, List.set_cons_succ, i64_w, i32_w]
       rfl
      refine pure_ (i := 7) (N := some 20) (v := ?_) (a' := ?_) #[true, true, true, true, true, true, true, true, false, false, false, false] rfl rfl (any_of HT_.out (by kernel_rfl)) (fun _ _ _ h => h) (Or.inl ⟨by rfl, ?_⟩) ?_ ?_
      rotate_left
      ·intro w'
       go_simp
       with_reducible rfl
      rotate_left
      ·simp only [Act.put, List.setIfInBounds_toArray, List.set_cons_zero, List.set_cons_succ, i64_w, i32_w]
       rfl
      refine pure_ (i := 8) (N := some 28) (v := ?_) (a' := ?_) #[true, true, true, true, true, true, true, true, true, false, false, false] rfl rfl (any_of HT_.out (by kernel_rfl)) (fun _ _ _ h => h) (Or.inl ⟨by rfl, ?_⟩) ?_ ?_
      rotate_left
      ·intro w'
       go_simp
       with_reducible rfl
      rotate_left
      ·simp only [Act.put, List.setIfInBounds_toArray, List.set_cons_zero, List.set_cons_succ, i64_w, i32_w]
       rfl
      refine pure_ (i := 9) (N := some 29) (v := ?_) (a' := ?_) #[true, true, true, true, true, true, true, true, true, true, false, false] rfl rfl (any_of HT_.out (by kernel_rfl)) (fun _ _ _ h => h) (Or.inl ⟨by rfl, ?_⟩) ?_ ?_
      rotate_left
      ·intro w'
       go_simp
       with_reducible rfl
      rotate_left
      ·simp only [Act.put, List.setIfInBounds_toArray, List.set_cons_zero, List.set_cons_succ, i64_w, i32_w]
       rfl
      refine pure_ (i := 10) (N := some 6) (v := ?_) (a' := ?_) #[true, true, true, true, true, true, true, true, true, true, true, false] rfl rfl (any_of HT_.out (by kernel_rfl)) (fun _ _ _ h => h) (Or.inl ⟨by rfl, ?_⟩) ?_ ?_
      rotate_left
      ·intro w'
       go_simp
       with_reducible rfl
      rotate_left
      ·simp only [Act.put, List.setIfInBounds_toArray, List.set_cons_zero, List.set_cons_succ, i64_w, i32_w]
       rfl
      refine pure_ (i := 11) (N := some 7) (v := ?_) (a' := ?_) #[true, true, true, true, true, true, true, true, true, true, true, true] rfl rfl (any_of HT_.out (by kernel_rfl)) (fun _ _ _ h => h) (Or.inl ⟨by rfl, ?_⟩) ?_ ?_
      rotate_left
      ·intro w'
       go_simp
       with_reducible rfl
      rotate_left
      ·simp only [Act.put, List.setIfInBounds_toArray, List.set_cons_zero, List.set_cons_succ, i64_w, i32_w]
       rfl
      refine done_ (done_of HT_.out (by kernel_rfl)) ?_
      try go_wp2
      have n0_ := Aside0.mk (Kd.R_drew HO921.out)
      have n1_ := Aside0.mk (blk_drew BK910.out)
      have n2_ := Aside0.mk (blk_drew BK911.out)
      have n3_ := Aside0.mk (below_drew1 HB.out)
      clear HO921
      clear BK910
      clear BK911
      clear HB
      have HO921 := n0_
      have BK910 := n1_
      have BK911 := n2_
      have HB := n3_
      clear n0_ n1_ n2_ n3_
      have q30 : (a1 : Int) ≤ ((l0_1.length : Int) : Int) := of_decide_eq_true (by first | (with_reducible assumption) | assumption)
      obtain ⟨i030, hi030, _, hsz30, _⟩ := info_parts info25
      have hroom30 : l0_1.length ≤ c0_1 := HC0_1.out
      have hC30 : Kd.C k25 _ A0_1 l0_1.length l0_1 := HR0_1.out
      have q030 : (0 : Int) ≤ (a1 : Int) := of_decide_eq_true (by first | (with_reducible assumption) | assumption)
      have hcut30 := cut_from (P := Try.prog) 33 25 .i64 Try.underlying33 hi030 4 hsz30 A0_1 l0_1.length c0_1 a1 q030 q30
      have hr30 := Kd.C_drop (m := (a1 : Int).toNat) (c := c0_1) hC30 (by omega) hroom30
      obtain ⟨A30, hA30⟩ : ∃ A1, A1 = (if c0_1 = (a1 : Int).toNat then A0_1 else (A0_1 : Option Addr).map (·.add ((a1 : Int).toNat * 4))) := ⟨_, rfl⟩
      obtain ⟨c30, hc30⟩ : ∃ c1, c1 = c0_1 - (a1 : Int).toNat := ⟨_, rfl⟩
      have hy30 : y922.length = l0_1.length - (a1 : Int).toNat := (by rw [Ny922.out, List.length_drop] <;> omega)
      rw [show (l0_1).drop (a1 : Int).toNat = y922 from Ny922.out.symm] at hr30
      replace hr30 : Kd.C k25 _ A30 y922.length y922 := (by rw [hA30]; exact hr30)
      rw [← hy30, ← hA30, ← hc30] at hcut30
      have HR925 := Aside0.mk hr30
      have HC925 := Aside0.mk (show y922.length ≤ c30 from by rw [hy30, hc30]; exact Nat.sub_le_sub_right hroom30 _)
      clear hr30 hC30 hroom30 hi030 hsz30 hc30
      have KY30 := Aside0.mk hy30
      have KA30 := Aside0.mk hA30
      clear hy30 hA30
      replace q30 := eq_true q30
      refine start_ (n := 12) (S := fun w' => w'.cell? ⟨gb910, 0, none⟩ = some (.slice A0_0 l0_0.length c0_0) ∧ w'.cell? ⟨gb910, 1, none⟩ = some (.slice A0_1 l0_1.length c0_1) ∧ w'.cell? ⟨gb910, 2, none⟩ = some (.slice A0_2 l0_2.length c0_2)) (ds := []) #[false, false, false, false, false, false, false, false, false, false, false, false] (by kernel_rfl) rfl rfl ⟨(blk_cell BK910.out 0).trans rfl, (blk_cell BK910.out 1).trans rfl, (blk_cell BK910.out 2).trans rfl⟩ (fun hHeld => ?_); refine with_tabW impl_ForgetEdits.tab4 impl_ForgetEdits.bits4 (fun HT_ HW_ => ?_)
      generalize w28.drew = w29 at HO921 BK910 BK911 HB HR925 hHeld ⊢
      refine pure_ (i := 0) (N := some 30) (v := ?_) (a' := ?_) #[true, false, false, false, false, false, false, false, false, false, false, false] rfl rfl (any_of HT_.out (by kernel_rfl)) (fun _ _ _ h => h) (Or.inl ⟨by rfl, ?_⟩) ?_ ?_
      rotate_left
      ·intro w'
       go_simp
       with_reducible rfl
      rotate_left
      ·simp only [Act.put, List.setIfInBounds_toArray, List.set_cons_zero, List.set_cons_succ, i64_w, i32_w]
       rfl
      refine pure_ (i := 1) (N := some 31) (v := ?_) (a' := ?_) #[true, true, false, false, false, false, false, false, false, false, false, false] rfl rfl (any_of HT_.out (by kernel_rfl)) (fun _ _ _ h => h) (Or.inl ⟨by rfl, ?_⟩) ?_ ?_
      rotate_left
      ·intro w'
       go_simp
       with_reducible rfl
      rotate_left
      ·simp only [Act.put, List.setIfInBounds_toArray, List.set_cons_zero, List.set_cons_succ, i64_w, i32_w]
       rfl
      refine pure_ (i := 3) (N := some 33) (v := ?_) (a' := ?_) #[true, true, false, true, false, false, false, false, false, false, false, false] rfl rfl (any_of HT_.out (by kernel_rfl)) (fun _ _ _ h => h) (Or.inl ⟨by rfl, ?_⟩) ?_ ?_
      rotate_left
      ·intro w'
       go_simp
       with_reducible rfl
      rotate_left
      ·simp only [Act.put, List.setIfInBounds_toArray, List.set_cons_zero, List.set_cons_succ, i64_w, i32_w]
       rfl
      refine pure_ (i := 6) (N := some 36) (v := ?_) (a' := ?_) #[true, true, false, true, false, false, true, false, false, false, false, false] rfl rfl (any_of HT_.out (by kernel_rfl)) (fun _ _ _ h => h) (Or.inl ⟨by rfl, ?_⟩) ?_ ?_
      rotate_left
      ·intro w'
       go_simp
       with_reducible rfl
      rotate_left
      ·simp only [Act.put, List.setIfInBounds_toArray, List.set_cons_zero, List.set_cons_succ, i64_w, i32_w]
       rfl
      refine take_ (i := 2) (N := some 32) (v := ?_) (a' := ?_) #[true, true, true, true, false, false, true, false, false, false, false, false] rfl rfl (take_ofW HT_.out HW_.out (by kernel_rfl)) (fun _ _ _ h => h) (Or.inl ⟨by rfl, ?_⟩) hHeld ?_ ?_
      rotate_left
      ·rintro w' ⟨s0, s1, s2⟩
       go_simp
       with_reducible rfl
      rotate_left
      ·simp only [Act.put, List.setIfInBounds_toArray, List.set_cons_zero, List.set_cons_succ, i64_w, i32_w]
       rfl
      refine pure_ (i := 4) (N := some 34) (v := ?_) (a' := ?_) #[true, true, true, true, true, false, true, false, false, false, false, false] rfl rfl (any_of HT_.out (by kernel_rfl)) (fun _ _ _ h => h) (Or.inl ⟨by rfl, ?_⟩) ?_ ?_
      rotate_left
      ·intro w'
       go_simp
       with_reducible rfl
      rotate_left
      ·simp only [Act.put, List.setIfInBounds_toArray, List.set_cons_zero, List.set_cons_succ, i64_w, i32_w]
       rfl
      refine take_ (i := 7) (N := some 37) (v := ?_) (a' := ?_) #[true, true, true, true, true, false, true, true, false, false, false, false] rfl rfl (take_ofW HT_.out HW_.out (by kernel_rfl)) (fun _ _ _ h => h) (Or.inl ⟨by rfl, ?_⟩) hHeld ?_ ?_
      rotate_left
      ·rintro w' ⟨s0, s1, s2⟩
       go_simp
       with_reducible rfl
      rotate_left
      ·simp only [Act.put, List.setIfInBounds_toArray, List.set_cons_zero, List.set_cons_succ, i64_w, i32_w]
       rfl
      refine one_ (i := 5) (N := some 35) #[true, true, true, true, true, true, true, true, false, false, false, false] rfl rfl (one_of HT_.out (by kernel_rfl)) (by decide) (fun K hK => ?_)
      refine goes_ Try.func69 (by kernel_rfl) rfl #[.slice A30 y922.length c30] (by rfl) rfl rfl args_ ?_
      with_reducible refine (impl_DeskEdit_69.calls _ _ y922 t926 _ ?side1 ?side2 A24.out).mono ?_
      (case side1 => repeat (first | exact (Kd.C_below HR925.out HB.out) | (with_reducible first | apply cA_ | apply cN_ | apply cD_)))
      (case side2 => exact HC925.out)
      rintro e w31 ⟨v927, rfl, ho0, hb⟩
      refine ⟨_, rfl, ?_⟩
      have n0_ := Aside0.mk (Kd.R_below (ra_ HO921) hb)
      have n1_ := Aside0.mk (Kd.R_lower ho0 (below_size (bb2_ HB GE910 GE911)))
      have n2_ := Aside0.mk (lb_ BK910 hb)
      have n3_ := Aside0.mk (lb_ BK911 hb)
      have n4_ := Aside0.mk (below_step (bb2_ HB GE910 GE911) hb)
      clear HO921
      clear BK910
      clear BK911
      clear HB
      have HO921 := n0_
      have HO928 := n1_
      have BK910 := n2_
      have BK911 := n3_
      have HB := n4_
      clear n0_ n1_ n2_ n3_ n4_
      (try clear hb)
      (try clear hb2)
      (try clear hk)
      (try clear hi)
      (try clear ho0)
      refine hK.out _ _ ⟨(blk_cell BK910.out 0).trans rfl, (blk_cell BK910.out 1).trans rfl, (blk_cell BK910.out 2).trans rfl⟩ (fun hHeld => ?_)
      clear hK K
      refine norm_ (a' := ?_) ?_ ?_
      rotate_left
      ·show Act.put _ (some 35) _ = _
       simp only [Act.put, List.setIfInBounds_toArray, List.set_cons_zero, List.set_cons_succ, i64_w, i32_w]
       rfl
      refine one_ (i := 8) (N := some 38) #[true, true, true, true, true, true, true, true, true, false, false, false] rfl rfl (one_of HT_.out (by kernel_rfl)) (by decide) (fun K hK => ?_)
      refine goes_ Try.func69 (by kernel_rfl) rfl #[.slice A0_2 l0_2.length c0_2] (by rfl) rfl rfl args_ ?_
      with_reducible refine (impl_DeskEdit_69.calls _ _ l0_2 t929 _ ?side1 ?side2 A25.out).mono ?_
      (case side1 => repeat (first | exact (Kd.C_below HR0_2.out HB.out) | (with_reducible first | apply cA_ | apply cN_ | apply cD_)))
      (case side2 => exact HC0_2.out)
      rintro e w32 ⟨v930, rfl, ho0, hb⟩
      refine ⟨_, rfl, ?_⟩
      have n0_ := Aside0.mk (Kd.R_below (ra_ HO921) hb)
      have n1_ := Aside0.mk (Kd.R_elder' (ra_ HO928) (Kd.R_base ho0) hb)
      have n2_ := Aside0.mk (Kd.R_lower (Kd.R_new' ho0 (Kd.R_lt (ra_ HO928))) (below_size (bb2_ HB GE910 GE911)))
      have n3_ := Aside0.mk (lb_ BK910 hb)
      have n4_ := Aside0.mk (lb_ BK911 hb)
      have n5_ := Aside0.mk (below_step (bb2_ HB GE910 GE911) hb)
      clear HO921
      clear HO928
      clear BK910
      clear BK911
      clear HB
      have HO921 := n0_
      have HO928 := n1_
      have HO931 := n2_
      have BK910 := n3_
      have BK911 := n4_
      have HB := n5_
      clear n0_ n1_ n2_ n3_ n4_ n5_
      (try clear hb)
      (try clear hb2)
      (try clear hk)
      (try clear hi)
      (try clear ho0)
      obtain ⟨Ao33, co33, eo33⟩ := Kd.R_slice HO931.out
      (first | subst eo33 | (injection eo33 with f1_ f2_ f3_; have f4_ := f1_.symm; have f5_ := f3_.symm; clear f1_ f2_ f3_; subst f4_; subst f5_))
      obtain ⟨Ao34, co34, eo34⟩ := Kd.R_slice HO928.out
      (first | subst eo34 | (injection eo34 with f1_ f2_ f3_; have f4_ := f1_.symm; have f5_ := f3_.symm; clear f1_ f2_ f3_; subst f4_; subst f5_))
      obtain ⟨Ao35, co35, eo35⟩ := Kd.R_slice HO921.out
      (first | subst eo35 | (injection eo35 with f1_ f2_ f3_; have f4_ := f1_.symm; have f5_ := f3_.symm; clear f1_ f2_ f3_; subst f4_; subst f5_))
      refine hK.out _ _ ⟨(blk_cell BK910.out 0).trans rfl, (blk_cell BK910.out 1).trans rfl, (blk_cell BK910.out 2).trans rfl⟩ (fun hHeld => ?_)
      clear hK K
      refine norm_ (a' := ?_) ?_ ?_
      rotate_left
      ·show Act.put _ (some 38) _ = _
       simp only [Act.put, List.setIfInBounds_toArray, List.set_cons_zero, List.set_cons_succ, i64_w, i32_w]
       rfl
      refine pure_ (i := 9) (N := some 39) (v := ?_) (a' := ?_) #[true, true, true, true, true, true, true, true, true, true, false, false] rfl rfl (any_of HT_.out (by kernel_rfl)) (fun _ _ _ h => h) (Or.inl ⟨by rfl, ?_⟩) ?_ ?_
      rotate_left
      ·intro w'
       go_simp
       with_reducible rfl
      rotate_left
      ·simp only [Act.put, List.setIfInBounds_toArray, List.set_cons_zero, List.set_cons_succ, i64_w, i32_w]
       rfl
      refine one_ (i := 10) (N := none) #[true, true, true, true, true, true, true, true, true, true, true, false] rfl rfl (one_of HT_.out (by kernel_rfl)) (by decide) (fun K hK => ?_)
      have hs36 : w32.cell? ⟨gb911, 0, none⟩ = some (.slice none 0 0) := (blk_cell BK911.out 0).trans rfl
      have hfs36 := blk_frozen BK911.out 0
      have hns36_0 := NB910_911.out
      have hms36_0 := NB911_910.out
      have hs37 : w32.cell? ⟨gb911, 1, none⟩ = some (.slice none 0 0) := (blk_cell BK911.out 1).trans rfl
      have hfs37 := blk_frozen BK911.out 1
      have hns37_0 := NB910_911.out
      have hms37_0 := NB911_910.out
      have hs38 : w32.cell? ⟨gb911, 2, none⟩ = some (.slice none 0 0) := (blk_cell BK911.out 2).trans rfl
      have hfs38 := blk_frozen BK911.out 2
      have hns38_0 := NB910_911.out
      have hms38_0 := NB911_910.out
      refine skip_ (w1 := ?_) (by rfl) rfl ?_ ?_
      rotate_left
      ·go_simp
       rfl
      refine hK.out _ _ ⟨((cell_far (p := ⟨gb911, _, none⟩) NB910_911.out _).trans (((cell_far (p := ⟨gb911, _, none⟩) NB910_911.out _).trans (((cell_far (p := ⟨gb911, _, none⟩) NB910_911.out _).trans (hHeld.1)))))), ((cell_far (p := ⟨gb911, _, none⟩) NB910_911.out _).trans (((cell_far (p := ⟨gb911, _, none⟩) NB910_911.out _).trans (((cell_far (p := ⟨gb911, _, none⟩) NB910_911.out _).trans (hHeld.2.1)))))), ((cell_far (p := ⟨gb911, _, none⟩) NB910_911.out _).trans (((cell_far (p := ⟨gb911, _, none⟩) NB910_911.out _).trans (((cell_far (p := ⟨gb911, _, none⟩) NB910_911.out _).trans (hHeld.2.2))))))⟩ (fun hHeld => ?_)
      clear hK K
      refine pure_ (i := 11) (N := some 5) (v := ?_) (a' := ?_) #[true, true, true, true, true, true, true, true, true, true, true, true] rfl rfl (any_of HT_.out (by kernel_rfl)) (fun _ _ _ h => h) (Or.inl ⟨by rfl, ?_⟩) ?_ ?_
      rotate_left
      ·intro w'
       go_simp
       with_reducible rfl
      rotate_left
      ·simp only [Act.put, List.setIfInBounds_toArray, List.set_cons_zero, List.set_cons_succ, i64_w, i32_w]
       rfl
      refine done_ (done_of HT_.out (by kernel_rfl)) ?_
      try go_wp2
      refine bodyPost_ret (results_ct rfl _ _ gb911 35 #[.slice Ao35 t918.length co35, .slice Ao34 t926.length co34, .slice Ao33 t929.length co33] (0, 0) _ rfl (by (with_reducible repeat (first | apply lN_ | apply lD_ | apply lA_)); refine blk_put (cs := #[.slice Ao35 t918.length co35, .slice Ao34 t926.length co34, .slice none 0 0]) ?_ 2 _ rfl; (with_reducible repeat (first | apply lN_ | apply lD_ | apply lA_)); refine blk_put (cs := #[.slice Ao35 t918.length co35, .slice none 0 0, .slice none 0 0]) ?_ 1 _ rfl; (with_reducible repeat (first | apply lN_ | apply lD_ | apply lA_)); refine blk_put (cs := #[.slice none 0 0, .slice none 0 0, .slice none 0 0]) ?_ 0 _ rfl; (with_reducible repeat (first | apply lN_ | apply lD_ | apply lA_)); exact BK911.out) Try.underlying35 rfl (by kernel_rfl)) rfl ?_
      exact ⟨_, _, _, by first | rfl | (simp [errW_none, errW_some] <;> rfl) | (simp [*, errW_none, errW_some] <;> rfl), by (with_reducible repeat (first | apply rA_ | apply rN_ | apply rD_)); exact Kd.R_mono (fr_ (fr_ (fr_ (ft_ HO921 BK911) 0 (.slice Ao35 t918.length co35)) 1 (.slice Ao34 t926.length co34)) 2 (.slice Ao33 t929.length co33)) (fun _ hk => trivial), by (with_reducible repeat (first | apply rA_ | apply rN_ | apply rD_)); exact Kd.R_mono (fr_ (fr_ (fr_ (ft_ HO928 BK911) 0 (.slice Ao35 t918.length co35)) 1 (.slice Ao34 t926.length co34)) 2 (.slice Ao33 t929.length co33)) (fun _ hk => hk.1.2), by (with_reducible repeat (first | apply rA_ | apply rN_ | apply rD_)); exact Kd.R_mono (fr_ (fr_ (fr_ (ft_ HO931 BK911) 0 (.slice Ao35 t918.length co35)) 1 (.slice Ao34 t926.length co34)) 2 (.slice Ao33 t929.length co33)) (fun _ hk => hk.1.2), bb2_ HB GE910 GE911⟩
     ·rw [if_neg c20] at H
      exact absurd H (by simp)
    ·rw [if_neg c19] at H
     exact absurd H (by simp)

end Go.Proofs.Ytmmpnigbfiebbaa.PA
