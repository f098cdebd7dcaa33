-- Written by a program of this session (wip/tools/myprint.py). Not trusted: Lean checks it.
import Derived.Test.YtmmpnigbfiebbaaPAx0
import Derived.Test.YtmmpnigbfiebbaaPAx1
import Derived.Test.YtmmpnigbfiebbaaPAx3
import Derived.Test.YtmmpnigbfiebbaaPAx5
import Derived.Test.YtmmpnigbfiebbaaPAx6
import Derived.Test.YtmmpnigbfiebbaaPAx10
import Derived.Test.YtmmpnigbfiebbaaPAx11
import Derived.Test.YtmmpnigbfiebbaaPAx12
namespace Go.Proofs.Ytmmpnigbfiebbaa.PA
open Go.RowKit Go.Proofs.YtmmpnigbfiebbaaW.PrintWords Go.Proofs.YtmmpnigbfiebbaaW.PrintLast Go.Proofs.YtmmpnigbfiebbaaW.PrintMore
attribute [local go_sem] max2_int min2_int max_two min_two max_three min_three max_four min_four   -- for this text's walks alone
set_option linter.unusedVariables false
set_option linter.unusedSimpArgs false

/-! ### spec_ReplaceItem: function 47 -/
def spec_ReplaceItem.j0 : Nat → Int → ByteArray → Bool → List ByteArray → List (S25) → List (S25) → Option (List ByteArray × (List (S25)) × (List (S25)) × Bool)
 | 0, _, _, _, _, _, _ => none
 | k + 1, x1, x2, x17, x1257000, x1257001, x1257002 => if x17 = true then (some (([] : List ByteArray), ([] : List (S25)), ([] : List (S25)), false)) else ((spec_unAt.f k x1257000 x1257001 x1257002 x1).bind fun bt1260 => (if bt1260.2 = true then ((spec_unDo.f k x1257000 x1257001 x1257002 2 x1 x2 bt1260.1).bind fun bt1262 => (some (bt1262.1, bt1262.2.1, bt1262.2.2.1, bt1262.2.2.2))) else (some (([] : List ByteArray), ([] : List (S25)), ([] : List (S25)), false))))
def spec_ReplaceItem.f (k : Nat) (l0_0 : List ByteArray) (l0_1 : List (S25)) (l0_2 : List (S25)) (a1 : Int) (a2 : ByteArray) : Option (List ByteArray × (List (S25)) × (List (S25)) × Bool) := (spec_unGood.f k l0_0 l0_1 l0_2).bind fun t1258 => (if t1258 = true then ((spec_enGloss.f k a2).bind fun t1259 => (spec_ReplaceItem.j0 k a1 a2 (!t1259) l0_0 l0_1 l0_2)) else (spec_ReplaceItem.j0 k a1 a2 true l0_0 l0_1 l0_2))
theorem spec_ReplaceItem.mono_l : ∀ k, (∀ y0 y1 y2 y3 y4 y5, LeO (spec_ReplaceItem.j0 k y0 y1 y2 y3 y4 y5) (spec_ReplaceItem.j0 (k + 1) y0 y1 y2 y3 y4 y5))
 | 0 => fun _ _ _ _ _ _ r h => by simp [spec_ReplaceItem.j0] at h
 | k + 1 => by
  have ih0 := spec_ReplaceItem.mono_l k
  ·intro y0 y1 y2 y3 y4 y5
   unfold spec_ReplaceItem.j0
   repeat' first
   | (with_reducible exact ih0 _ _ _ _ _ _)
   | (with_reducible exact spec_enGloss.mono _ _)
   | (with_reducible exact spec_unAt.mono _ _ _ _ _)
   | (with_reducible exact spec_unDo.mono _ _ _ _ _ _ _ _)
   | (with_reducible exact spec_unGood.mono _ _ _ _)
   | (with_reducible exact LeO.refl _)
   | (with_reducible exact LeO.none _)
   | (with_reducible refine LeO.ite ?_ ?_)
   | (with_reducible refine LeO.bind ?_ (fun _ => ?_))
   | exact ih0 _ _ _ _ _ _
   | exact LeO.none _
   | refine LeO.ite ?_ ?_
   | refine LeO.bind ?_ (fun _ => ?_)
theorem spec_ReplaceItem.mono : ∀ a0 a1 a2 a3 a4 k, LeO (spec_ReplaceItem.f k a0 a1 a2 a3 a4) (spec_ReplaceItem.f (k + 1) a0 a1 a2 a3 a4) := by
 intro a0 a1 a2 a3 a4 k
 have ih0 := spec_ReplaceItem.mono_l k
 unfold spec_ReplaceItem.f
 repeat' first
   | (with_reducible exact ih0 _ _ _ _ _ _)
   | (with_reducible exact spec_enGloss.mono _ _)
   | (with_reducible exact spec_unAt.mono _ _ _ _ _)
   | (with_reducible exact spec_unDo.mono _ _ _ _ _ _ _ _)
   | (with_reducible exact spec_unGood.mono _ _ _ _)
   | (with_reducible exact LeO.refl _)
   | (with_reducible exact LeO.none _)
   | (with_reducible refine LeO.ite ?_ ?_)
   | (with_reducible refine LeO.bind ?_ (fun _ => ?_))
   | exact ih0 _ _ _ _ _ _
   | exact LeO.none _
   | refine LeO.ite ?_ ?_
   | refine LeO.bind ?_ (fun _ => ?_)
set_option maxHeartbeats 8000000 in
set_option maxRecDepth 100000 in
theorem spec_ReplaceItem.calls (k : Nat) (A0_0 : Option Addr) (c0_0 : Nat) (l0_0 : List ByteArray) (A0_1 : Option Addr) (c0_1 : Nat) (l0_1 : List (S25)) (A0_2 : Option Addr) (c0_2 : Nat) (l0_2 : List (S25)) (a1 : Int) (a2 : ByteArray) (r1 : List ByteArray) (r2 : List (S25)) (r3 : List (S25)) (r4 : Bool) (w : World) (hr0_0 : Kd.C Kd.string w A0_0 l0_0.length l0_0) (hc0_0 : l0_0.length ≤ c0_0) (hr0_1 : Kd.C k25 w A0_1 l0_1.length l0_1) (hc0_1 : l0_1.length ≤ c0_1) (hr0_2 : Kd.C k25 w A0_2 l0_2.length l0_2) (hc0_2 : l0_2.length ≤ c0_2) (h : spec_ReplaceItem.f k l0_0 l0_1 l0_2 a1 a2 = some (r1, r2, r3, r4)) :
  Calls Try.prog 47 #[.agg #[.slice A0_0 l0_0.length c0_0, .slice A0_1 l0_1.length c0_1, .slice A0_2 l0_2.length c0_2], .int .i64 a1, .string a2] w fun e w' => ∃ v0_ v1_ v2_ : Value, e = .returned (.tuple #[.agg #[v0_, v1_, v2_], .bool r4]) ∧ Kd.R Kd.string 9 w' w.heap.size (fun _ => True) v0_ r1 ∧ Kd.R k25 25 w' w.heap.size (fun k_ => some k_ ≠ (v2_ : Value).ownBlock) v1_ r2 ∧ Kd.R k25 25 w' w.heap.size (fun k_ => some k_ ≠ (v1_ : Value).ownBlock) v2_ r3 ∧ Below w.heap.size w w' := by
 have hu35 := Try.underlying35
 have hu25 := Try.underlying25
 have HR0_0 := Aside0.mk hr0_0
 have HC0_0 := Aside0.mk hc0_0
 clear hr0_0 hc0_0
 have HR0_1 := Aside0.mk hr0_1
 have HC0_1 := Aside0.mk hc0_1
 clear hr0_1 hc0_1
 have HR0_2 := Aside0.mk hr0_2
 have HC0_2 := Aside0.mk hc0_2
 clear hr0_2 hc0_2
 have HB := Aside0.mk (Below.refl w.heap.size w)
 have H : ((spec_unGood.f k l0_0 l0_1 l0_2).bind fun t1258 => (if t1258 = true then ((spec_enGloss.f k a2).bind fun t1259 => (spec_ReplaceItem.j0 k a1 a2 (!t1259) l0_0 l0_1 l0_2)) else (spec_ReplaceItem.j0 k a1 a2 true l0_0 l0_1 l0_2))) = some (r1, r2, r3, r4) := h
 clear h
 have HC4 := Aside0.mk H
 clear H
 go_enter Try.func47, Try.ntmps47
 go_upto_region 1 with (first | ((with_reducible refine gate_dst (N := 3) rfl ?_); refine box_event ?hg (N := 3) ?hd (cs := #[.slice A0_0 l0_0.length c0_0, .slice A0_1 l0_1.length c0_1, .slice A0_2 l0_2.length c0_2]) (t := 35) ?hr ?_; (case hd => rfl); (case hg => rfl); (case hr => first | (go_simp; done) | (go_simp; rfl)); intro gb1256 hg w5 hbox hb; have n0_ := Aside0.mk (bt_ HB hb); have n1_ := Aside0.mk (hbox); have n2_ := gz_ hg HB; have n3_ := gz_ hg HB; clear HB; have HB := n0_; have BK1256 := n1_; have GW1256 := n2_; have GE1256 := n3_; clear n0_ n1_ n2_ n3_; clear hb hbox hg) | ((with_reducible refine gate_dst (N := 6) rfl ?_); refine box_event ?hg (N := 6) ?hd (cs := #[.slice none 0 0, .slice none 0 0, .slice none 0 0]) (t := 35) ?hr ?_; (case hd => rfl); (case hg => rfl); (case hr => first | (go_simp; done) | (go_simp; rfl)); intro gb1257 hg w6 hbox hb; have n0_ := Aside0.mk (lb_ BK1256 hb); have n1_ := Aside0.mk (below_step (bb1_ HB GE1256) hb); have n2_ := Aside0.mk (hbox); have n3_ := gy_ hg (bb1_ HB GE1256); have n4_ := gy_ hg (bb1_ HB GE1256); have n5_ := nl_ hg BK1256; have n6_ := ng_ hg BK1256; clear BK1256; clear HB; have BK1256 := n0_; have HB := n1_; have BK1257 := n2_; have GW1257 := n3_; have GE1257 := n4_; have NB1256_1257 := n5_; have NB1257_1256 := n6_; clear n0_ n1_ n2_ n3_ n4_ n5_ n6_; clear hb hbox hg))
 (try simp only [Act.put, sA_, sB_, sC_])
 go_cut [17] (fun v17 wc => ∃ (kq : Nat) (x17_3 : Bool), v17 = .bool x17_3 ∧ Aside0 (spec_ReplaceItem.j0 kq a1 a2 x17_3 l0_0 l0_1 l0_2 = some (r1, r2, r3, r4)) ∧ Aside0 (kq ≤ k) ∧ Aside0 (wc.heap[gb1256]? = some (.cells #[(.slice A0_0 l0_0.length c0_0), (.slice A0_1 l0_1.length c0_1), (.slice A0_2 l0_2.length c0_2)] 35 (0, 0))) ∧ Aside0 (wc.heap[gb1257]? = some (.cells #[(.slice none 0 0), (.slice none 0 0), (.slice none 0 0)] 35 (0, 0))) ∧ Aside0 (Below w.heap.size w wc))
 case first =>
  have H := HC4.out
  clear HC4
  replace H := Option.bind_eq_some_iff.mp H
  obtain ⟨t1258, A70, H⟩ := H
  try dsimp only at H
  have A7 := Aside0.mk A70
  clear A70
  by_cases c8 : t1258 = true
  ·subst c8
   have H1 : ((spec_enGloss.f k a2).bind fun t1259 => (spec_ReplaceItem.j0 k a1 a2 (!t1259) l0_0 l0_1 l0_2)) = some (r1, r2, r3, r4) := by rw [if_pos rfl] at H; exact H
   clear H
   have H := H1
   clear H1
   replace H := Option.bind_eq_some_iff.mp H
   obtain ⟨t1259, A90, H⟩ := H
   try dsimp only at H
   have A9 := Aside0.mk A90
   clear A90
   have H' := Aside0.mk H
   clear H
   have hnb10 := NB1256_1257.out
   have hnc10 := NB1257_1256.out
   have hcz11_0 := cz0_ BK1256
   have hcz11_1 := cz1_ BK1256
   have hcz11_2 := cz2_ BK1256
   have hfz11_0 := fz_ BK1256 0
   have hfz11_1 := fz_ BK1256 1
   have hfz11_2 := fz_ BK1256 2
   go_wp2_with (first | ((with_reducible refine gate_callee (f := 59) rfl ?_); refine goesL_ (some 11) rfl rfl Try.func59 (by kernel_rfl) rfl #[.agg #[.slice A0_0 l0_0.length c0_0, .slice A0_1 l0_1.length c0_1, .slice A0_2 l0_2.length c0_2]] rfl args_ ?_; (with_reducible refine (spec_unGood.calls k _ _ l0_0 _ _ l0_1 _ _ l0_2 true _ ?side1 ?side2 ?side3 ?side4 ?side5 ?side6 A7.out).mono ?_); (case side1 => exact cb_ HR0_0 HB); (case side2 => exact HC0_0.out); (case side3 => exact cb_ HR0_1 HB); (case side4 => exact HC0_1.out); (case side5 => exact cb_ HR0_2 HB); (case side6 => exact HC0_2.out); rintro e w12 ⟨rfl, hb⟩; refine ⟨_, rfl, ?_⟩; have n0_ := Aside0.mk (lb_ BK1256 hb); have n1_ := Aside0.mk (lb_ BK1257 hb); have n2_ := Aside0.mk (below_step (bb2_ HB GE1256 GE1257) hb); clear BK1256; clear BK1257; clear HB; have BK1256 := n0_; have BK1257 := n1_; have HB := n2_; clear n0_ n1_ n2_; (try clear hb); (try clear hb2); (try clear hk); (try clear hi)) | (go_at_call 70; (with_reducible refine (spec_enGloss.calls k a2 t1259 _ A9.out).mono ?_); rintro e w' ⟨rfl, ⟨nd, rfl⟩⟩))
   go_meet
   case rel => exact ⟨_, (!t1259), (by first | rfl | (simp; done) | (simp [*]; done)), H', ⟨by first | omega | exact Nat.le_refl _⟩, ⟨by (with_reducible repeat (first | apply lN_ | apply lD_ | apply lA_)); exact BK1256.out⟩, ⟨by (with_reducible repeat (first | apply lN_ | apply lD_ | apply lA_)); exact BK1257.out⟩, ⟨bb2_ HB GE1256 GE1257⟩⟩
  ·replace c8 := Bool.eq_false_iff.mpr c8
   subst c8
   have H1 : (spec_ReplaceItem.j0 k a1 a2 true l0_0 l0_1 l0_2) = some (r1, r2, r3, r4) := by rw [if_neg (show ¬ (false = true) by decide)] at H; exact H
   clear H
   have H := H1
   clear H1
   have H' := Aside0.mk H
   clear H
   have hnb13 := NB1256_1257.out
   have hnc13 := NB1257_1256.out
   have hcz14_0 := cz0_ BK1256
   have hcz14_1 := cz1_ BK1256
   have hcz14_2 := cz2_ BK1256
   have hfz14_0 := fz_ BK1256 0
   have hfz14_1 := fz_ BK1256 1
   have hfz14_2 := fz_ BK1256 2
   go_wp2_with (first | ((with_reducible refine gate_callee (f := 59) rfl ?_); refine goesL_ (some 11) rfl rfl Try.func59 (by kernel_rfl) rfl #[.agg #[.slice A0_0 l0_0.length c0_0, .slice A0_1 l0_1.length c0_1, .slice A0_2 l0_2.length c0_2]] rfl args_ ?_; (with_reducible refine (spec_unGood.calls k _ _ l0_0 _ _ l0_1 _ _ l0_2 false _ ?side1 ?side2 ?side3 ?side4 ?side5 ?side6 A7.out).mono ?_); (case side1 => exact cb_ HR0_0 HB); (case side2 => exact HC0_0.out); (case side3 => exact cb_ HR0_1 HB); (case side4 => exact HC0_1.out); (case side5 => exact cb_ HR0_2 HB); (case side6 => exact HC0_2.out); rintro e w15 ⟨rfl, hb⟩; refine ⟨_, rfl, ?_⟩; have n0_ := Aside0.mk (lb_ BK1256 hb); have n1_ := Aside0.mk (lb_ BK1257 hb); have n2_ := Aside0.mk (below_step (bb2_ HB GE1256 GE1257) hb); clear BK1256; clear BK1257; clear HB; have BK1256 := n0_; have BK1257 := n1_; have HB := n2_; clear n0_ n1_ n2_; (try clear hb); (try clear hb2); (try clear hk); (try clear hi)))
   go_meet
   case rel => exact ⟨_, (true), (by first | rfl | (simp; done) | (simp [*]; done)), H', ⟨by first | omega | exact Nat.le_refl _⟩, ⟨by (with_reducible repeat (first | apply lN_ | apply lD_ | apply lA_)); exact BK1256.out⟩, ⟨by (with_reducible repeat (first | apply lN_ | apply lD_ | apply lA_)); exact BK1257.out⟩, ⟨bb2_ HB GE1256 GE1257⟩⟩
 case rest =>
  clear HC4
  try clear c1
  try clear p2
  try clear c4
  try clear c5
  try clear c8
  try clear c10
  try clear c13
  try clear hcz11_0
  try clear hcz11_1
  try clear hcz11_2
  try clear hcz14_0
  try clear hcz14_1
  try clear hcz14_2
  try clear hfz11_0
  try clear hfz11_1
  try clear hfz11_2
  try clear hfz14_0
  try clear hfz14_1
  try clear hfz14_2
  obtain ⟨kq, x17_3, rfl, HA, HJ3, BK1256, BK1257, HB⟩ := hcut
  cases kq with
  | zero => exact absurd HA.out (by simp [spec_ReplaceItem.j0])
  | succ kj3 =>
   have H := HA.out
   clear HA
   simp only [spec_ReplaceItem.j0] at H
   by_cases c16 : x17_3 = true
   ·subst c16
    have H1 : (some (([] : List ByteArray), ([] : List (S25)), ([] : List (S25)), false)) = some (r1, r2, r3, r4) := by rw [if_pos rfl] at H; exact H
    clear H
    have H := H1
    clear H1
    simp only [Option.some.injEq, Prod.mk.injEq] at H
    obtain ⟨rfl, rfl, rfl, rfl⟩ := H
    have hnb17 := NB1257_1256.out
    have hnc17 := NB1256_1257.out
    have hcz18_0 := cz0_ BK1257
    have hcz18_1 := cz1_ BK1257
    have hcz18_2 := cz2_ BK1257
    have hfz18_0 := fz_ BK1257 0
    have hfz18_1 := fz_ BK1257 1
    have hfz18_2 := fz_ BK1257 2
    go_wp2
    refine bodyPost_ret (results_ct rfl _ _ gb1257 35 #[.slice none 0 0, .slice none 0 0, .slice none 0 0] (0, 0) _ rfl (by (with_reducible repeat (first | apply lN_ | apply lD_ | apply lA_)); refine blk_put (cs := #[.slice none 0 0, .slice none 0 0, .slice none 0 0]) ?_ 2 _ rfl; (with_reducible repeat (first | apply lN_ | apply lD_ | apply lA_)); refine blk_put (cs := #[.slice none 0 0, .slice none 0 0, .slice none 0 0]) ?_ 1 _ rfl; (with_reducible repeat (first | apply lN_ | apply lD_ | apply lA_)); refine blk_put (cs := #[.slice none 0 0, .slice none 0 0, .slice none 0 0]) ?_ 0 _ rfl; (with_reducible repeat (first | apply lN_ | apply lD_ | apply lA_)); exact BK1257.out) Try.underlying35 rfl (by kernel_rfl)) rfl ?_
    exact ⟨_, _, _, by first | rfl | (simp [errW_none, errW_some] <;> rfl) | (simp [*, errW_none, errW_some] <;> rfl), by first | exact Kd.R_nil _ _ _ _ _ | exact Kd.N_nil _ _ _ _ _ | exact Kd.V_nil _ _ _ _ _ | exact Kd.Q_nil _ _ _ _ _ | exact Kd.S_nil _ _ _ _ _, by first | exact Kd.R_nil _ _ _ _ _ | exact Kd.N_nil _ _ _ _ _ | exact Kd.V_nil _ _ _ _ _ | exact Kd.Q_nil _ _ _ _ _ | exact Kd.S_nil _ _ _ _ _, by first | exact Kd.R_nil _ _ _ _ _ | exact Kd.N_nil _ _ _ _ _ | exact Kd.V_nil _ _ _ _ _ | exact Kd.Q_nil _ _ _ _ _ | exact Kd.S_nil _ _ _ _ _, bb2_ HB GE1256 GE1257⟩
   ·replace c16 := Bool.eq_false_iff.mpr c16
    subst c16
    have H1 : ((spec_unAt.f kj3 l0_0 l0_1 l0_2 a1).bind fun bt1260 => (if bt1260.2 = true then ((spec_unDo.f kj3 l0_0 l0_1 l0_2 2 a1 a2 bt1260.1).bind fun bt1262 => (some (bt1262.1, bt1262.2.1, bt1262.2.2.1, bt1262.2.2.2))) else (some (([] : List ByteArray), ([] : List (S25)), ([] : List (S25)), false)))) = some (r1, r2, r3, r4) := by rw [if_neg (show ¬ (false = true) by decide)] at H; exact H
    clear H
    have H := H1
    clear H1
    replace H := Option.bind_eq_some_iff.mp H
    obtain ⟨⟨t1260, t1261⟩, A190, H⟩ := H
    try dsimp only at H
    have A19 := Aside0.mk A190
    clear A190
    by_cases c20 : t1261 = true
    ·subst c20
     have H1 : ((spec_unDo.f kj3 l0_0 l0_1 l0_2 2 a1 a2 t1260).bind fun bt1262 => (some (bt1262.1, bt1262.2.1, bt1262.2.2.1, bt1262.2.2.2))) = some (r1, r2, r3, r4) := by rw [if_pos rfl] at H; exact H
     clear H
     have H := H1
     clear H1
     replace H := Option.bind_eq_some_iff.mp H
     obtain ⟨⟨t1262, t1265, t1268, t1271⟩, A210, H⟩ := H
     try dsimp only at H
     have A21 := Aside0.mk A210
     clear A210
     simp only [Option.some.injEq, Prod.mk.injEq] at H
     obtain ⟨rfl, rfl, rfl, rfl⟩ := H
     have hnb22 := NB1256_1257.out
     have hnc22 := NB1257_1256.out
     have hcz23_0 := cz0_ BK1256
     have hcz23_1 := cz1_ BK1256
     have hcz23_2 := cz2_ BK1256
     have hfz23_0 := fz_ BK1256 0
     have hfz23_1 := fz_ BK1256 1
     have hfz23_2 := fz_ BK1256 2
     go_wp2_with (first | ((with_reducible refine gate_callee (f := 74) rfl ?_); refine goesL_ (some 22) rfl rfl Try.func74 (by kernel_rfl) rfl #[.agg #[.slice A0_0 l0_0.length c0_0, .slice A0_1 l0_1.length c0_1, .slice A0_2 l0_2.length c0_2], .int .i64 a1] rfl args_ ?_; (with_reducible refine (spec_unAt.calls kj3 _ _ l0_0 _ _ l0_1 _ _ l0_2 a1 t1260 true _ ?side1 ?side2 ?side3 ?side4 ?side5 ?side6 A19.out).mono ?_); (case side1 => exact cb_ HR0_0 HB); (case side2 => exact HC0_0.out); (case side3 => exact cb_ HR0_1 HB); (case side4 => exact HC0_1.out); (case side5 => exact cb_ HR0_2 HB); (case side6 => exact HC0_2.out); rintro e w24 ⟨rfl, hb⟩; refine ⟨_, rfl, ?_⟩; have n0_ := Aside0.mk (lb_ BK1256 hb); have n1_ := Aside0.mk (lb_ BK1257 hb); have n2_ := Aside0.mk (below_step (bb2_ HB GE1256 GE1257) hb); clear BK1256; clear BK1257; clear HB; have BK1256 := n0_; have BK1257 := n1_; have HB := n2_; clear n0_ n1_ n2_; (try clear hb); (try clear hb2); (try clear hk); (try clear hi); have hcz25_0 := cz0_ BK1256; have hcz25_1 := cz1_ BK1256; have hcz25_2 := cz2_ BK1256; have hfz25_0 := fz_ BK1256 0; have hfz25_1 := fz_ BK1256 1; have hfz25_2 := fz_ BK1256 2) | ((with_reducible refine gate_callee (f := 71) rfl ?_); refine goesL_ (some 33) rfl rfl Try.func71 (by kernel_rfl) rfl #[.agg #[.slice A0_0 l0_0.length c0_0, .slice A0_1 l0_1.length c0_1, .slice A0_2 l0_2.length c0_2], .agg #[.int .i64 2, .int .i64 a1, .string a2, .string t1260]] rfl args_ ?_; (with_reducible refine (spec_unDo.calls kj3 _ _ l0_0 _ _ l0_1 _ _ l0_2 2 a1 a2 t1260 t1262 t1265 t1268 t1271 _ ?side1 ?side2 ?side3 ?side4 ?side5 ?side6 A21.out).mono ?_); (case side1 => exact cb_ HR0_0 HB); (case side2 => exact HC0_0.out); (case side3 => exact cb_ HR0_1 HB); (case side4 => exact HC0_1.out); (case side5 => exact cb_ HR0_2 HB); (case side6 => exact HC0_2.out); rintro e w26 ⟨v1263, v1266, v1269, rfl, ho0, ho1, ho2, hb⟩; refine ⟨_, rfl, ?_⟩; have n0_ := Aside0.mk (Kd.R_lower ho0 (below_size (bb2_ HB GE1256 GE1257))); have n1_ := Aside0.mk (Kd.R_lower ho1 (below_size (bb2_ HB GE1256 GE1257))); have n2_ := Aside0.mk (Kd.R_lower ho2 (below_size (bb2_ HB GE1256 GE1257))); have n3_ := Aside0.mk (lb_ BK1256 hb); have n4_ := Aside0.mk (lb_ BK1257 hb); have n5_ := Aside0.mk (below_step (bb2_ HB GE1256 GE1257) hb); clear BK1256; clear BK1257; clear HB; have HO1264 := n0_; have HO1267 := n1_; have HO1270 := n2_; have BK1256 := n3_; have BK1257 := n4_; have HB := n5_; clear n0_ n1_ n2_ n3_ n4_ n5_; (try clear hb); (try clear hb2); (try clear hk); (try clear hi); (try clear ho0); (try clear ho1); (try clear ho2); obtain ⟨Ao27, co27, eo27⟩ := Kd.R_slice HO1264.out; subst eo27; have hcz28_0 := cz0_ BK1257; have hcz28_1 := cz1_ BK1257; have hcz28_2 := cz2_ BK1257; have hfz28_0 := fz_ BK1257 0; have hfz28_1 := fz_ BK1257 1; have hfz28_2 := fz_ BK1257 2; obtain ⟨Ao29, co29, eo29⟩ := Kd.R_slice HO1267.out; subst eo29; obtain ⟨Ao30, co30, eo30⟩ := Kd.R_slice HO1270.out; subst eo30))
     refine bodyPost_ret (results_ct rfl _ _ gb1257 35 #[.slice Ao27 t1262.length co27, .slice Ao29 t1265.length co29, .slice Ao30 t1268.length co30] (0, 0) _ rfl (by (with_reducible repeat (first | apply lN_ | apply lD_ | apply lA_)); refine blk_put (cs := #[.slice Ao27 t1262.length co27, .slice Ao29 t1265.length co29, .slice none 0 0]) ?_ 2 _ rfl; (with_reducible repeat (first | apply lN_ | apply lD_ | apply lA_)); refine blk_put (cs := #[.slice Ao27 t1262.length co27, .slice none 0 0, .slice none 0 0]) ?_ 1 _ rfl; (with_reducible repeat (first | apply lN_ | apply lD_ | apply lA_)); refine blk_put (cs := #[.slice none 0 0, .slice none 0 0, .slice none 0 0]) ?_ 0 _ rfl; (with_reducible repeat (first | apply lN_ | apply lD_ | apply lA_)); exact BK1257.out) Try.underlying35 rfl (by kernel_rfl)) rfl ?_
     exact ⟨_, _, _, by first | rfl | (simp [errW_none, errW_some] <;> rfl) | (simp [*, errW_none, errW_some] <;> rfl), by (with_reducible repeat (first | apply rA_ | apply rN_ | apply rD_)); exact Kd.R_mono (fr_ (fr_ (fr_ (ft_ HO1264 BK1257) 0 (.slice Ao27 t1262.length co27)) 1 (.slice Ao29 t1265.length co29)) 2 (.slice Ao30 t1268.length co30)) (fun _ hk => trivial), by (with_reducible repeat (first | apply rA_ | apply rN_ | apply rD_)); exact Kd.R_mono (fr_ (fr_ (fr_ (ft_ HO1267 BK1257) 0 (.slice Ao27 t1262.length co27)) 1 (.slice Ao29 t1265.length co29)) 2 (.slice Ao30 t1268.length co30)) (fun _ hk => hk.1), by (with_reducible repeat (first | apply rA_ | apply rN_ | apply rD_)); exact Kd.R_mono (fr_ (fr_ (fr_ (ft_ HO1270 BK1257) 0 (.slice Ao27 t1262.length co27)) 1 (.slice Ao29 t1265.length co29)) 2 (.slice Ao30 t1268.length co30)) (fun _ hk => hk.1), bb2_ HB GE1256 GE1257⟩
    ·replace c20 := Bool.eq_false_iff.mpr c20
     subst c20
     have H1 : (some (([] : List ByteArray), ([] : List (S25)), ([] : List (S25)), false)) = some (r1, r2, r3, r4) := by rw [if_neg (show ¬ (false = true) by decide)] at H; exact H
     clear H
     have H := H1
     clear H1
     simp only [Option.some.injEq, Prod.mk.injEq] at H
     obtain ⟨rfl, rfl, rfl, rfl⟩ := H
     have hnb31 := NB1256_1257.out
     have hnc31 := NB1257_1256.out
     have hcz32_0 := cz0_ BK1256
     have hcz32_1 := cz1_ BK1256
     have hcz32_2 := cz2_ BK1256
     have hfz32_0 := fz_ BK1256 0
     have hfz32_1 := fz_ BK1256 1
     have hfz32_2 := fz_ BK1256 2
     go_wp2_with (first | ((with_reducible refine gate_callee (f := 74) rfl ?_); refine goesL_ (some 22) rfl rfl Try.func74 (by kernel_rfl) rfl #[.agg #[.slice A0_0 l0_0.length c0_0, .slice A0_1 l0_1.length c0_1, .slice A0_2 l0_2.length c0_2], .int .i64 a1] rfl args_ ?_; (with_reducible refine (spec_unAt.calls kj3 _ _ l0_0 _ _ l0_1 _ _ l0_2 a1 t1260 false _ ?side1 ?side2 ?side3 ?side4 ?side5 ?side6 A19.out).mono ?_); (case side1 => exact cb_ HR0_0 HB); (case side2 => exact HC0_0.out); (case side3 => exact cb_ HR0_1 HB); (case side4 => exact HC0_1.out); (case side5 => exact cb_ HR0_2 HB); (case side6 => exact HC0_2.out); rintro e w33 ⟨rfl, hb⟩; refine ⟨_, rfl, ?_⟩; have n0_ := Aside0.mk (lb_ BK1256 hb); have n1_ := Aside0.mk (lb_ BK1257 hb); have n2_ := Aside0.mk (below_step (bb2_ HB GE1256 GE1257) hb); clear BK1256; clear BK1257; clear HB; have BK1256 := n0_; have BK1257 := n1_; have HB := n2_; clear n0_ n1_ n2_; (try clear hb); (try clear hb2); (try clear hk); (try clear hi); have hcz34_0 := cz0_ BK1257; have hcz34_1 := cz1_ BK1257; have hcz34_2 := cz2_ BK1257; have hfz34_0 := fz_ BK1257 0; have hfz34_1 := fz_ BK1257 1; have hfz34_2 := fz_ BK1257 2))
     refine bodyPost_ret (results_ct rfl _ _ gb1257 35 #[.slice none 0 0, .slice none 0 0, .slice none 0 0] (0, 0) _ rfl (by (with_reducible repeat (first | apply lN_ | apply lD_ | apply lA_)); refine blk_put (cs := #[.slice none 0 0, .slice none 0 0, .slice none 0 0]) ?_ 2 _ rfl; (with_reducible repeat (first | apply lN_ | apply lD_ | apply lA_)); refine blk_put (cs := #[.slice none 0 0, .slice none 0 0, .slice none 0 0]) ?_ 1 _ rfl; (with_reducible repeat (first | apply lN_ | apply lD_ | apply lA_)); refine blk_put (cs := #[.slice none 0 0, .slice none 0 0, .slice none 0 0]) ?_ 0 _ rfl; (with_reducible repeat (first | apply lN_ | apply lD_ | apply lA_)); exact BK1257.out) Try.underlying35 rfl (by kernel_rfl)) rfl ?_
     exact ⟨_, _, _, by first | rfl | (simp [errW_none, errW_some] <;> rfl) | (simp [*, errW_none, errW_some] <;> rfl), by first | exact Kd.R_nil _ _ _ _ _ | exact Kd.N_nil _ _ _ _ _ | exact Kd.V_nil _ _ _ _ _ | exact Kd.Q_nil _ _ _ _ _ | exact Kd.S_nil _ _ _ _ _, by first | exact Kd.R_nil _ _ _ _ _ | exact Kd.N_nil _ _ _ _ _ | exact Kd.V_nil _ _ _ _ _ | exact Kd.Q_nil _ _ _ _ _ | exact Kd.S_nil _ _ _ _ _, by first | exact Kd.R_nil _ _ _ _ _ | exact Kd.N_nil _ _ _ _ _ | exact Kd.V_nil _ _ _ _ _ | exact Kd.Q_nil _ _ _ _ _ | exact Kd.S_nil _ _ _ _ _, bb2_ HB GE1256 GE1257⟩

/-! ### impl_ReplaceItem: function 48 -/
/-- The edit that is told for the items. -/
def impl_ReplaceItem.e (its : List ByteArray) (a1 : Int) (a2 : ByteArray) : Option S25 := (impl_itemAt.f its a1).bind fun o => some (⟨2, a1, a2, o⟩ : S25)
def impl_ReplaceItem.f (k : Nat) (l0_0 : List ByteArray) (l0_1 l0_2 : List S25) (a1 : Int) (a2 : ByteArray) : Option (List ByteArray × List S25 × List S25 × Bool) := (impl_ItemsNow.f k l0_0 l0_1 l0_2).bind fun bt => if bt.2 = true then (if (l0_1.length : Int) = 30 then some (([] : List ByteArray), ([] : List S25), ([] : List S25), false) else (slices_Clone_string_string.f l0_0).bind fun s => (impl_DeskEdit_69.f l0_1).bind fun d => (impl_ReplaceItem.e bt.1 a1 a2).bind fun e => if d.length + 1 < 2932031007402 then (impl_IsDesk.f k s (d ++ [e]) []).bind fun t => if t = true then some (s, d ++ [e], [], true) else some (([] : List ByteArray), ([] : List S25), ([] : List S25), false) else none) else some (([] : List ByteArray), ([] : List S25), ([] : List S25), false)
theorem impl_ReplaceItem.mono : ∀ l0_0 l0_1 l0_2 a1 a2 k, LeO (impl_ReplaceItem.f k l0_0 l0_1 l0_2 a1 a2) (impl_ReplaceItem.f (k + 1) l0_0 l0_1 l0_2 a1 a2) := by
 intro l0_0 l0_1 l0_2 a1 a2 k
 unfold impl_ReplaceItem.f
 refine LeO.bind (impl_ItemsNow.mono _ _ _ _) (fun _ => LeO.ite (LeO.ite (LeO.refl _) (LeO.bind (LeO.refl _) (fun _ => LeO.bind (LeO.refl _) (fun _ => LeO.bind (LeO.refl _) (fun _ => LeO.ite (LeO.bind (impl_IsDesk.mono _ _ _ _) (fun _ => LeO.refl _)) (LeO.refl _)))))) (LeO.refl _))
set_option maxHeartbeats 4000000 in
set_option maxRecDepth 100000 in
theorem impl_ReplaceItem.clo (A : Option Addr) (c : Nat) (its : List ByteArray) (a1 : Int) (a2 : ByteArray) (p0 : Nat) (p1 : Nat) (e : S25) (w : World) (hr : Kd.C Kd.string w A its.length its) (hc : its.length ≤ c) (hp0 : w.heap[p0]? = some (.cells #[(.int .i64 a1)] 3 (0, 0))) (hp1 : w.heap[p1]? = some (.cells #[(.string a2)] 9 (0, 0))) (h : impl_ReplaceItem.e its a1 a2 = some e) :
  Calls Try.prog 77 #[.slice A its.length c, .pointer (some ⟨p0, 0, none⟩), .pointer (some ⟨p1, 0, none⟩)] w fun x w' => x = .returned (.agg #[.int .i64 e.f0, .int .i64 e.f1, .string e.f2, .string e.f3]) ∧ Below w.heap.size w w' := by
 have HB := Aside0.mk (Below.refl w.heap.size w)
 have HR := Aside0.mk hr
 have HC := Aside0.mk hc
 unfold impl_ReplaceItem.e at h
 have huE := Try.underlying25
 have BKp0 := Aside0.mk hp0
 have BKp1 := Aside0.mk hp1
 obtain ⟨o, ho, h⟩ := Option.bind_eq_some_iff.mp h
 obtain rfl := Option.some.inj h
 have HO := Aside0.mk ho
 clear hr hc h ho hp0 hp1
 go_enter Try.func77, Try.ntmps77
 go_wp2_with ((with_reducible refine gate_dst (N := 4) rfl ?_); refine box_event ?hg (N := 4) ?hd (cs := #[.int .i64 0, .int .i64 0, .string (⟨#[]⟩ : ByteArray), .string (⟨#[]⟩ : ByteArray)]) (t := 25) ?hr ?_; (case hd => rfl); (case hg => rfl); (case hr => first | (go_simp; done) | (go_simp; rfl)); intro gr hg w3 hbox hb; have hnp0 := (by rw [hg]; exact Nat.ne_of_lt (blk_lt BKp0.out) : p0 ≠ gr); have hmp0 := hnp0.symm; have hnp1 := (by rw [hg]; exact Nat.ne_of_lt (blk_lt BKp1.out) : p1 ≠ gr); have hmp1 := hnp1.symm; have n0_ := Aside0.mk (bt_ HB hb); have n1_ := Aside0.mk (hbox); have n2_ := gz_ hg HB; have n4_ := Aside0.mk (Kd.C_below HR.out hb); have mp0_ := Aside0.mk (lb_ BKp0 hb); have mp1_ := Aside0.mk (lb_ BKp1 hb); clear HB HR BKp0 BKp1; have HB := n0_; have BKr := n1_; have GEr := n2_; have HR := n4_; clear n0_ n1_ n2_ n4_; have BKp0 := mp0_; clear mp0_; have BKp1 := mp1_; clear mp1_; clear hb hbox hg; have hzp0 := cz0_ BKp0; have hzp1 := cz0_ BKp1; have hcr0 := cz0_ BKr; have hcr1 := cz1_ BKr; have hcr2 := cz2_ BKr; have hcr3 := cz3_ BKr; have hfr0 := fz_ BKr 0; have hfr1 := fz_ BKr 1; have hfr2 := fz_ BKr 2; have hfr3 := fz_ BKr 3)
 go_region_with (go_at_call 76; (with_reducible refine (impl_itemAt.calls _ _ its a1 o _ ?hI HC.out HO.out).mono ?_); (case hI => repeat (first | exact HR.out | (with_reducible first | apply cA_ | apply cN_ | apply cD_))); rintro e wq ⟨rfl, ⟨nd, rfl⟩⟩)
 all_goals go_wp2
 all_goals refine bodyPost_ret (results_cell_row rfl _ _ gr 25 #[.int .i64 2, .int .i64 a1, .string a2, .string o] (0, 0) _ rfl (by (with_reducible repeat (first | apply lN_ | apply lD_ | apply lA_)); refine blk_put (cs := #[.int .i64 2, .int .i64 a1, .string a2, .string (⟨#[]⟩ : ByteArray)]) ?_ 3 _ rfl; (with_reducible repeat (first | apply lN_ | apply lD_ | apply lA_)); refine blk_put (cs := #[.int .i64 2, .int .i64 a1, .string (⟨#[]⟩ : ByteArray), .string (⟨#[]⟩ : ByteArray)]) ?_ 2 _ rfl; (with_reducible repeat (first | apply lN_ | apply lD_ | apply lA_)); refine blk_put (cs := #[.int .i64 2, .int .i64 0, .string (⟨#[]⟩ : ByteArray), .string (⟨#[]⟩ : ByteArray)]) ?_ 1 _ rfl; (with_reducible repeat (first | apply lN_ | apply lD_ | apply lA_)); refine blk_put (cs := #[.int .i64 0, .int .i64 0, .string (⟨#[]⟩ : ByteArray), .string (⟨#[]⟩ : ByteArray)]) ?_ 0 _ rfl; (with_reducible repeat (first | apply lN_ | apply lD_ | apply lA_)); exact BKr.out) huE rfl (by kernel_rfl)) rfl ?_
 all_goals exact ⟨by first | rfl | (simp; done), bb1_ HB GEr⟩
theorem impl_ReplaceItem.tab : rtab .any (opsOf Try.f72 4) = ((true, [([], []), ([0], [0]), ([1], [1]), ([], []), ([3], [3]), ([4, 2], [4]), ([], []), ([], []), ([6, 7, 5], [6, 7]), ([8], [8]), ([5, 9, 8], [5, 9]), ([2, 10], [2, 10]), ([], []), ([12, 11, 10, 0, 1, 2, 3, 4, 5, 6, 7, 8, 9, 10, 11, 12], [11, 12])]) : Bool × List (List Nat × List Nat)) := by kernel_rfl
theorem impl_ReplaceItem.bits : waitsOk ((true, [([], []), ([0], [0]), ([1], [1]), ([], []), ([3], [3]), ([4, 2], [4]), ([], []), ([], []), ([6, 7, 5], [6, 7]), ([8], [8]), ([5, 9, 8], [5, 9]), ([2, 10], [2, 10]), ([], []), ([12, 11, 10, 0, 1, 2, 3, 4, 5, 6, 7, 8, 9, 10, 11, 12], [11, 12])]) : Bool × List (List Nat × List Nat)).2 ([0, 1, 3, 0, 8, 31, 0, 0, 255, 511, 1023, 2047, 0, 8191] : List Nat) = true := by kernel_rfl
set_option maxHeartbeats 8000000 in
set_option maxRecDepth 100000 in
theorem impl_ReplaceItem.edited (k : Nat) (A0_0 : Option Addr) (c0_0 : Nat) (l0_0 : List ByteArray) (A0_1 : Option Addr) (c0_1 : Nat) (l0_1 : List S25) (A0_2 : Option Addr) (c0_2 : Nat) (l0_2 : List S25) (a1 : Int) (a2 : ByteArray) (p0 : Nat) (p1 : Nat) (r1 : List ByteArray) (r2 r3 : List S25) (r4 : Bool) (w : World) (hr0_0 : Kd.C Kd.string w A0_0 l0_0.length l0_0) (hc0_0 : l0_0.length ≤ c0_0) (hr0_1 : Kd.C k25 w A0_1 l0_1.length l0_1) (hc0_1 : l0_1.length ≤ c0_1) (hr0_2 : Kd.C k25 w A0_2 l0_2.length l0_2) (hc0_2 : l0_2.length ≤ c0_2) (hp0 : w.heap[p0]? = some (.cells #[(.int .i64 a1)] 3 (0, 0))) (hp1 : w.heap[p1]? = some (.cells #[(.string a2)] 9 (0, 0))) (h : impl_ReplaceItem.f k l0_0 l0_1 l0_2 a1 a2 = some (r1, r2, r3, r4)) :
  Calls Try.prog 72 #[.agg #[.slice A0_0 l0_0.length c0_0, .slice A0_1 l0_1.length c0_1, .slice A0_2 l0_2.length c0_2], .func (.func 77) #[] #[.pointer (some ⟨p0, 0, none⟩), .pointer (some ⟨p1, 0, none⟩)]] w fun e w' => ∃ v0_ v1_ v2_ : Value, e = .returned (.tuple #[.agg #[v0_, v1_, v2_], .bool r4]) ∧ Kd.R Kd.string 9 w' w.heap.size (fun _ => True) v0_ r1 ∧ Kd.R k25 25 w' w.heap.size (fun k_ => some k_ ≠ (v2_ : Value).ownBlock) v1_ r2 ∧ Kd.R k25 25 w' w.heap.size (fun k_ => some k_ ≠ (v1_ : Value).ownBlock) v2_ r3 ∧ Below w.heap.size w w' := by
 have hu35 := Try.underlying35
 have hu25 := Try.underlying25
 have HR0_0 := Aside0.mk hr0_0
 have HC0_0 := Aside0.mk hc0_0
 have HR0_1 := Aside0.mk hr0_1
 have HC0_1 := Aside0.mk hc0_1
 have HR0_2 := Aside0.mk hr0_2
 have HC0_2 := Aside0.mk hc0_2
 have HF := Aside0.mk (fun (its : List ByteArray) (e : S25) (he : impl_ReplaceItem.e its a1 a2 = some e) (W : World) (A : Option Addr) (c : Nat) (hW : Below w.heap.size w W) (hi : Kd.C Kd.string W A its.length its) (hc : its.length ≤ c) => impl_ReplaceItem.clo A c its a1 a2 p0 p1 e W hi hc (blk_below hp0 hW) (blk_below hp1 hW) he)
 clear hr0_0 hc0_0 hr0_1 hc0_1 hr0_2 hc0_2 hp0 hp1
 have HB := Aside0.mk (Below.refl w.heap.size w)
 unfold impl_ReplaceItem.f at h
 obtain ⟨⟨its, ok⟩, hi, h⟩ := Option.bind_eq_some_iff.mp h
 have HI := Aside0.mk hi
 clear hi
 by_cases hok : ok = true
 ·subst hok
  simp only [if_true] at h
  by_cases h30 : (l0_1.length : Int) = 30
  ·rw [if_pos h30] at h
   have h30b := decide_eq_true h30
   have h30c : ((l0_1.length : Int) == 30) = true := beq_iff_eq.mpr h30
   clear h30
   simp only [Option.some.injEq, Prod.mk.injEq] at h
   obtain ⟨rfl, rfl, rfl, rfl⟩ := h
   go_enter Try.func72, Try.ntmps72
   go_wp2_with (first | ((with_reducible refine gate_dst (N := 2) rfl ?_); refine box_event ?hg (N := 2) ?hd (cs := #[.slice A0_0 l0_0.length c0_0, .slice A0_1 l0_1.length c0_1, .slice A0_2 l0_2.length c0_2]) (t := 35) ?hr ?_; (case hd => rfl); (case hg => rfl); (case hr => first | (go_simp; done) | (go_simp; rfl)); intro gd hg w3 hbox hb; have n0_ := Aside0.mk (bt_ HB hb); have n1_ := Aside0.mk (hbox); have n3_ := gz_ hg HB; clear HB; have HB := n0_; have BKd := n1_; have GEd := n3_; clear n0_ n1_ n3_; clear hb hbox hg) | ((with_reducible refine gate_dst (N := 4) rfl ?_); refine box_event ?hg (N := 4) ?hd (cs := #[.slice none 0 0, .slice none 0 0, .slice none 0 0]) (t := 35) ?hr ?_; (case hd => rfl); (case hg => rfl); (case hr => first | (go_simp; done) | (go_simp; rfl)); intro gr hg w4 hbox hb; have n0_ := Aside0.mk (lb_ BKd hb); have n1_ := Aside0.mk (below_step (bb1_ HB GEd) hb); have n2_ := Aside0.mk (hbox); have n3_ := gy_ hg (bb1_ HB GEd); have n5_ := nl_ hg BKd; clear BKd HB; have BKd := n0_; have HB := n1_; have BKr := n2_; have GEr := n3_; have NBdr := n5_; clear n0_ n1_ n2_ n3_ n5_; clear hb hbox hg; have hcz0 := cz0_ BKd; have hcz1 := cz1_ BKd; have hcz2 := cz2_ BKd) | (go_at_call 36; (with_reducible refine (impl_ItemsNow.calls k _ _ l0_0 _ _ l0_1 _ _ l0_2 its _ _ ?s1 HC0_0.out ?s3 HC0_1.out ?s5 HC0_2.out HI.out).mono ?_); (case s1 => exact (by exact cb_ HR0_0 HB)); (case s3 => exact (by exact cb_ HR0_1 HB)); (case s5 => exact (by exact cb_ HR0_2 HB)); rintro e w5 ⟨vi, rfl, ho0, hb⟩; have n0_ := Aside0.mk (lb_ BKd hb); have n1_ := Aside0.mk (lb_ BKr hb); have n2_ := Aside0.mk (below_step (bb2_ HB GEd GEr) hb); have n3_ := Aside0.mk (Kd.R_lower ho0 (below_size (bb2_ HB GEd GEr))); clear BKd BKr HB; have BKd := n0_; have BKr := n1_; have HB := n2_; have HOi := n3_; clear n0_ n1_ n2_ n3_ hb ho0 hcz0 hcz1 hcz2; obtain ⟨Ai, ci, ei⟩ := Kd.R_slice HOi.out; subst ei; have hcz0 := cz0_ BKd; have hcz1 := cz1_ BKd; have hcr0 := cz0_ BKr; have hcr1 := cz1_ BKr; have hcr2 := cz2_ BKr; have hfr0 := fz_ BKr 0; have hfr1 := fz_ BKr 1; have hfr2 := fz_ BKr 2; have hnb := NBdr.out; have hnb2 := NBdr.out.symm))
   refine bodyPost_ret (results_ct rfl _ _ gr 35 #[.slice none 0 0, .slice none 0 0, .slice none 0 0] (0, 0) _ rfl (by (with_reducible repeat (first | apply lN_ | apply lD_ | apply lA_)); refine blk_put (cs := #[.slice none 0 0, .slice none 0 0, .slice none 0 0]) ?_ 2 _ rfl; (with_reducible repeat (first | apply lN_ | apply lD_ | apply lA_)); refine blk_put (cs := #[.slice none 0 0, .slice none 0 0, .slice none 0 0]) ?_ 1 _ rfl; (with_reducible repeat (first | apply lN_ | apply lD_ | apply lA_)); refine blk_put (cs := #[.slice none 0 0, .slice none 0 0, .slice none 0 0]) ?_ 0 _ rfl; (with_reducible repeat (first | apply lN_ | apply lD_ | apply lA_)); exact BKr.out) Try.underlying35 rfl (by kernel_rfl)) rfl ?_
   exact ⟨_, _, _, by first | rfl | (simp; done), Kd.R_nil _ _ _ _ _, Kd.R_nil _ _ _ _ _, Kd.R_nil _ _ _ _ _, bb2_ HB GEd GEr⟩
  ·rw [if_neg h30] at h
   have h30b := decide_eq_false h30
   have h30c : ((l0_1.length : Int) == 30) = false := beq_eq_false_iff_ne.mpr h30
   clear h30
   obtain ⟨s_, hs_, h⟩ := Option.bind_eq_some_iff.mp h
   obtain ⟨d_, hd_, h⟩ := Option.bind_eq_some_iff.mp h
   obtain ⟨e_, he_, h⟩ := Option.bind_eq_some_iff.mp h
   by_cases hsz : d_.length + 1 < 2932031007402
   ·rw [if_pos hsz] at h
    have LM := Aside0.mk hsz
    obtain ⟨t_, ht_, h⟩ := Option.bind_eq_some_iff.mp h
    have HS_ := Aside0.mk hs_
    have HD_ := Aside0.mk hd_
    have HE_ := Aside0.mk he_
    obtain ⟨y_, hy_⟩ : ∃ y_ : List S25, y_ = d_ ++ [e_] := ⟨_, rfl⟩
    rw [← hy_] at ht_ h
    have NY := Aside0.mk hy_
    have HT_D := Aside0.mk ht_
    have HH := Aside0.mk h
    clear hs_ hd_ he_ ht_ h hsz hy_
    go_enter Try.func72, Try.ntmps72
    go_upto_region 4 with (first | ((with_reducible refine gate_dst (N := 2) rfl ?_); refine box_event ?hg (N := 2) ?hd (cs := #[.slice A0_0 l0_0.length c0_0, .slice A0_1 l0_1.length c0_1, .slice A0_2 l0_2.length c0_2]) (t := 35) ?hr ?_; (case hd => rfl); (case hg => rfl); (case hr => first | (go_simp; done) | (go_simp; rfl)); intro gd hg w3 hbox hb; have n0_ := Aside0.mk (bt_ HB hb); have n1_ := Aside0.mk (hbox); have n3_ := gz_ hg HB; clear HB; have HB := n0_; have BKd := n1_; have GEd := n3_; clear n0_ n1_ n3_; clear hb hbox hg) | ((with_reducible refine gate_dst (N := 4) rfl ?_); refine box_event ?hg (N := 4) ?hd (cs := #[.slice none 0 0, .slice none 0 0, .slice none 0 0]) (t := 35) ?hr ?_; (case hd => rfl); (case hg => rfl); (case hr => first | (go_simp; done) | (go_simp; rfl)); intro gr hg w4 hbox hb; have n0_ := Aside0.mk (lb_ BKd hb); have n1_ := Aside0.mk (below_step (bb1_ HB GEd) hb); have n2_ := Aside0.mk (hbox); have n3_ := gy_ hg (bb1_ HB GEd); have n5_ := nl_ hg BKd; clear BKd HB; have BKd := n0_; have HB := n1_; have BKr := n2_; have GEr := n3_; have NBdr := n5_; clear n0_ n1_ n2_ n3_ n5_; clear hb hbox hg; have hcz0 := cz0_ BKd; have hcz1 := cz1_ BKd; have hcz2 := cz2_ BKd) | (go_at_call 36; (with_reducible refine (impl_ItemsNow.calls k _ _ l0_0 _ _ l0_1 _ _ l0_2 its _ _ ?s1 HC0_0.out ?s3 HC0_1.out ?s5 HC0_2.out HI.out).mono ?_); (case s1 => exact (by exact cb_ HR0_0 HB)); (case s3 => exact (by exact cb_ HR0_1 HB)); (case s5 => exact (by exact cb_ HR0_2 HB)); rintro e w5 ⟨vi, rfl, ho0, hb⟩; have n0_ := Aside0.mk (lb_ BKd hb); have n1_ := Aside0.mk (lb_ BKr hb); have n2_ := Aside0.mk (below_step (bb2_ HB GEd GEr) hb); have n3_ := Aside0.mk (Kd.R_lower ho0 (below_size (bb2_ HB GEd GEr))); clear BKd BKr HB; have BKd := n0_; have BKr := n1_; have HB := n2_; have HOi := n3_; clear n0_ n1_ n2_ n3_ hb ho0 hcz0 hcz1 hcz2; obtain ⟨Ai, ci, ei⟩ := Kd.R_slice HOi.out; subst ei; have hcz0 := cz0_ BKd; have hcz1 := cz1_ BKd; have hcr0 := cz0_ BKr; have hcr1 := cz1_ BKr; have hcr2 := cz2_ BKr; have hfr0 := fz_ BKr 0; have hfr1 := fz_ BKr 1; have hfr2 := fz_ BKr 2; have hnb := NBdr.out; have hnb2 := NBdr.out.symm))
    try clear hcr0 hcr1 hcr2 hfr0 hfr1 hfr2 hnb hnb2
    try clear hcz0 hcz1
    have n0_ := Aside0.mk (blk_drew BKd.out)
    have n1_ := Aside0.mk (blk_drew BKr.out)
    have n2_ := Aside0.mk (below_drew1 HB.out)
    have n3_ := Aside0.mk (rD_ HOi.out)
    clear BKd BKr HB HOi
    have BKd := n0_
    have BKr := n1_
    have HB := n2_
    have HOi := n3_
    clear n0_ n1_ n2_ n3_
    refine start_ (n := 14) (S := fun w' => w'.cell? ⟨gd, 0, none⟩ = some (.slice A0_0 l0_0.length c0_0) ∧ w'.cell? ⟨gd, 1, none⟩ = some (.slice A0_1 l0_1.length c0_1)) (ds := []) #[false, false, false, false, false, false, false, false, false, false, false, false, false, false] (by kernel_rfl) rfl rfl ⟨(blk_cell BKd.out 0).trans rfl, (blk_cell BKd.out 1).trans rfl⟩ (fun hHeld => ?_); refine with_tabW impl_ReplaceItem.tab impl_ReplaceItem.bits (fun HT_ HW_ => ?_)
    generalize World.drew _ = w26 at BKd BKr HB HOi hHeld ⊢
    refine pu_ (i := 0) (N := some 23) (v := ?_) (a' := ?_) #[true, false, false, false, false, false, false, false, false, false, false, false, false, false] rfl rfl (Or.inl ⟨by rfl, ?_⟩) ?_ ?_
    rotate_left
    ·intro w'
     go_simp
     with_reducible rfl
    rotate_left
    ·simp only [Act.put, sA_, sB_, sC_, i64_w, i32_w]
     rfl
    refine pu_ (i := 3) (N := some 26) (v := ?_) (a' := ?_) #[true, false, false, true, false, false, false, false, false, false, false, false, false, false] rfl rfl (Or.inl ⟨by rfl, ?_⟩) ?_ ?_
    rotate_left
    ·intro w'
     go_simp
     with_reducible rfl
    rotate_left
    ·simp only [Act.put, sA_, sB_, sC_, i64_w, i32_w]
     rfl
    refine pu_ (i := 6) (N := some 29) (v := ?_) (a' := ?_) #[true, false, false, true, false, false, true, false, false, false, false, false, false, false] rfl rfl (Or.inl ⟨by rfl, ?_⟩) ?_ ?_
    rotate_left
    ·intro w'
     go_simp
     with_reducible rfl
    rotate_left
    ·simp only [Act.put, sA_, sB_, sC_, i64_w, i32_w]
     rfl
    refine pu_ (i := 7) (N := some 30) (v := ?_) (a' := ?_) #[true, false, false, true, false, false, true, true, false, false, false, false, false, false] rfl rfl (Or.inl ⟨by rfl, ?_⟩) ?_ ?_
    rotate_left
    ·intro w'
     go_simp
     with_reducible rfl
    rotate_left
    ·simp only [Act.put, sA_, sB_, sC_, i64_w, i32_w]
     rfl
    refine take_ (i := 1) (N := some 24) (v := ?_) (a' := ?_) #[true, true, false, true, false, false, true, true, false, false, false, false, false, false] rfl rfl (take_ofW HT_.out HW_.out (by kernel_rfl)) (fun _ _ _ h => h) (Or.inl ⟨by rfl, ?_⟩) hHeld ?_ ?_
    rotate_left
    ·rintro w' ⟨s0, s1⟩
     go_simp
     with_reducible rfl
    rotate_left
    ·simp only [Act.put, sA_, sB_, sC_, i64_w, i32_w]
     rfl
    refine take_ (i := 4) (N := some 27) (v := ?_) (a' := ?_) #[true, true, false, true, true, false, true, true, false, false, false, false, false, false] rfl rfl (take_ofW HT_.out HW_.out (by kernel_rfl)) (fun _ _ _ h => h) (Or.inl ⟨by rfl, ?_⟩) hHeld ?_ ?_
    rotate_left
    ·rintro w' ⟨s0, s1⟩
     go_simp
     with_reducible rfl
    rotate_left
    ·simp only [Act.put, sA_, sB_, sC_, i64_w, i32_w]
     rfl
    refine join_ (σ := Value × Value × Value × Value × Nat) 1 #[true, true, true, true, true, true, true, true, true, true, true, true, true, false] (fun σ_ => [(25, σ_.1), (28, σ_.2.1), (31, .agg #[.int .i64 e_.f0, .int .i64 e_.f1, .string e_.f2, .string e_.f3]), (32, σ_.2.2.1), (33, σ_.2.2.2.1), (34, .agg #[σ_.1, σ_.2.2.2.1, .slice none 0 0]), (8, .pointer (some ⟨σ_.2.2.2.2, 0, none⟩))]) (fun σ_ w' => (w'.cell? ⟨gd, 0, none⟩ = some (.slice A0_0 l0_0.length c0_0) ∧ w'.cell? ⟨gd, 1, none⟩ = some (.slice A0_1 l0_1.length c0_1)) ∧ (Kd.R Kd.string 9 w' w.heap.size (fun _ => True) σ_.1 s_) ∧ (Kd.R k25 25 w' w.heap.size (fun _ => True) σ_.2.2.2.1 y_) ∧ (w'.heap[gd]? = some (.cells #[.slice A0_0 l0_0.length c0_0, .slice A0_1 l0_1.length c0_1, .slice A0_2 l0_2.length c0_2] 35 (0, 0))) ∧ (w'.heap[gr]? = some (.cells #[.slice none 0 0, .slice none 0 0, .slice none 0 0] 35 (0, 0))) ∧ (w'.heap[σ_.2.2.2.2]? = some (.cells #[.slice none 0 0, .slice none 0 0, .slice none 0 0] 35 (0, 0))) ∧ (w.heap.size ≤ σ_.2.2.2.2) ∧ (gd ≠ σ_.2.2.2.2) ∧ (gr ≠ σ_.2.2.2.2) ∧ (Below w.heap.size w w')) ?_ ?_
    rotate_left
    ·intro hCont
     refine two_ (i := 2) (j := 12) (Ni := some 25) (Nj := some 8) #[true, true, true, true, true, false, true, true, false, false, false, false, false, false] #[true, true, false, true, true, false, true, true, false, false, false, false, true, false] rfl rfl rfl rfl (two_of HT_.out (by kernel_rfl)) (by decide) (by decide) (fun K hK => ?_) (fun K hK => ?_)
     ·skip
      refine goes_ Try.func53 (by kernel_rfl) rfl #[.slice A0_0 l0_0.length c0_0] (by rfl) rfl rfl args_ ?_
      with_reducible refine (slices_Clone_string_string.calls _ _ l0_0 s_ _ ?side1 HC0_0.out HS_.out).mono ?_
      (case side1 => exact (by exact cb_ HR0_0 HB))
      rintro e w28 ⟨vs, rfl, ho0, hb⟩
      refine ⟨_, rfl, ?_⟩
      have n0_ := Aside0.mk (Kd.R_lower ho0 (below_size (bb2_ HB GEd GEr)))
      have n1_ := Aside0.mk (Kd.R_below (ra_ HOi) hb)
      have n2_ := Aside0.mk (lb_ BKd hb)
      have n3_ := Aside0.mk (lb_ BKr hb)
      have n4_ := Aside0.mk (below_step (bb2_ HB GEd GEr) hb)
      clear HOi BKd BKr HB
      have HS := n0_
      have HOi := n1_
      have BKd := n2_
      have BKr := n3_
      have HB := n4_
      clear n0_ n1_ n2_ n3_ n4_
      clear hb ho0
      refine hK.out _ _ ⟨(blk_cell BKd.out 0).trans rfl, (blk_cell BKd.out 1).trans rfl⟩ (fun hHeld => ?_)
      clear hK K
      refine norm_ (a' := ?_) ?_ ?_
      rotate_left
      ·show Act.put _ (some 25) _ = _
       simp only [Act.put, sA_, sB_, sC_, i64_w, i32_w]
       rfl
      refine two_ (i := 5) (j := 12) (Ni := some 28) (Nj := some 8) #[true, true, true, true, true, true, true, true, false, false, false, false, false, false] #[true, true, true, true, true, false, true, true, false, false, false, false, true, false] rfl rfl rfl rfl (two_of HT_.out (by kernel_rfl)) (by decide) (by decide) (fun K hK => ?_) (fun K hK => ?_)
      ·skip
       refine goes_ Try.func69 (by kernel_rfl) rfl #[.slice A0_1 l0_1.length c0_1] (by rfl) rfl rfl args_ ?_
       with_reducible refine (impl_DeskEdit_69.calls _ _ l0_1 d_ _ ?side1 HC0_1.out HD_.out).mono ?_
       (case side1 => exact (by exact cb_ HR0_1 HB))
       rintro e w29 ⟨vd, rfl, ho0, hb⟩
       refine ⟨_, rfl, ?_⟩
       have n0_ := Aside0.mk (Kd.R_lower ho0 (below_size (bb2_ HB GEd GEr)))
       have n1_ := Aside0.mk (Kd.R_below (ra_ HOi) hb)
       have n2_ := Aside0.mk (Kd.R_below (ra_ HS) hb)
       have n3_ := Aside0.mk (lb_ BKd hb)
       have n4_ := Aside0.mk (lb_ BKr hb)
       have n5_ := Aside0.mk (below_step (bb2_ HB GEd GEr) hb)
       clear HOi HS BKd BKr HB
       have HD := n0_
       have HOi := n1_
       have HS := n2_
       have BKd := n3_
       have BKr := n4_
       have HB := n5_
       clear n0_ n1_ n2_ n3_ n4_ n5_
       clear hb ho0
       refine hK.out _ _ ⟨(blk_cell BKd.out 0).trans rfl, (blk_cell BKd.out 1).trans rfl⟩ (fun hHeld => ?_)
       clear hK K
       refine norm_ (a' := ?_) ?_ ?_
       rotate_left
       ·show Act.put _ (some 28) _ = _
        simp only [Act.put, sA_, sB_, sC_, i64_w, i32_w]
        rfl
       refine two_ (i := 8) (j := 12) (Ni := some 31) (Nj := some 8) #[true, true, true, true, true, true, true, true, true, false, false, false, false, false] #[true, true, true, true, true, true, true, true, false, false, false, false, true, false] rfl rfl rfl rfl (two_of HT_.out (by kernel_rfl)) (by decide) (by decide) (fun K hK => ?_) (fun K hK => ?_)
       ·skip
        refine call_ 77 #[.slice Ai its.length ci, .pointer (some ⟨p0, 0, none⟩), .pointer (some ⟨p1, 0, none⟩)] (by rfl) rfl (by have he := fun W_ => enters_ (P := Try.prog) (f := 77) (fn := Try.f77) Try.func77 (by kernel_rfl) rfl #[.slice Ai its.length ci, .pointer (some ⟨p0, 0, none⟩), .pointer (some ⟨p1, 0, none⟩)] W_; unfold execOp; simp [resolve, Deferred.ofValue, invoke, Act.eval, he]) ?_
        with_reducible refine (HF.out its e_ HE_.out _ Ai ci (bb2_ HB GEd GEr) ?side1 (Kd.R_reads' HOi.out).2.1).mono ?_
        (case side1 => exact cr_ HOi)
        rintro e w30 ⟨rfl, hb⟩
        refine ⟨_, rfl, ?_⟩
        have n0_ := Aside0.mk (Kd.R_below (ra_ HOi) hb)
        have n1_ := Aside0.mk (Kd.R_below (ra_ HS) hb)
        have n2_ := Aside0.mk (Kd.R_below (ra_ HD) hb)
        have n3_ := Aside0.mk (lb_ BKd hb)
        have n4_ := Aside0.mk (lb_ BKr hb)
        have n5_ := Aside0.mk (below_step (bb2_ HB GEd GEr) hb)
        clear HOi HS HD BKd BKr HB
        have HOi := n0_
        have HS := n1_
        have HD := n2_
        have BKd := n3_
        have BKr := n4_
        have HB := n5_
        clear n0_ n1_ n2_ n3_ n4_ n5_
        clear hb
        refine hK.out _ _ ⟨(blk_cell BKd.out 0).trans rfl, (blk_cell BKd.out 1).trans rfl⟩ (fun hHeld => ?_)
        clear hK K
        refine norm_ (a' := ?_) ?_ ?_
        rotate_left
        ·show Act.put _ (some 31) _ = _
         simp only [Act.put, sA_, sB_, sC_, i64_w, i32_w]
         rfl
        refine two_ (i := 9) (j := 12) (Ni := some 32) (Nj := some 8) #[true, true, true, true, true, true, true, true, true, true, false, false, false, false] #[true, true, true, true, true, true, true, true, true, false, false, false, true, false] rfl rfl rfl rfl (two_of HT_.out (by kernel_rfl)) (by decide) (by decide) (fun K hK => ?_) (fun K hK => ?_)
        ·skip
         refine Kd.R_lit_step k25 _ 25 ?hg (N := 32) ?hd (xs := ([e_] : List S25)) (inner := [.int .i64 e_.f0, .int .i64 e_.f1, .string e_.f2, .string e_.f3]) (ok := fun _ => True) (okp := fun _ => True) ?hr ?hp (fun _ hk => hk) trivial (Below.refl _ _) (Nat.le_refl _) (by simp) ?_; (case hd => rfl); (case hg => rfl); (case hr => first | (go_simp; done) | (go_simp; rfl)); (case hp => exact (Reps.c4 (show Kd.M k25 _ _ _ (e_ : S25) [.int .i64 e_.f0, .int .i64 e_.f1, .string e_.f2, .string e_.f3] from (k25_mkM _ _ _ e_)) (Reps.none _ _)))
         intro vl w31 ho32 hb hg_ hnew_
         clear hg_ hnew_
         have n0_ := Aside0.mk (Kd.R_lower ho32 (below_size (bb2_ HB GEd GEr)))
         have n1_ := Aside0.mk (Kd.R_below (ra_ HOi) hb)
         have n2_ := Aside0.mk (Kd.R_below (ra_ HS) hb)
         have n3_ := Aside0.mk (Kd.R_mono (Kd.R_elder' (ra_ HD) (Kd.R_base ho32) hb) (fun k_ hk_ => hk_.2) : Kd.R k25 25 w31 w.heap.size (fun k_ => some k_ ≠ (vl : Value).ownBlock) vd d_)
         have n4_ := Aside0.mk (lb_ BKd hb)
         have n5_ := Aside0.mk (lb_ BKr hb)
         have n6_ := Aside0.mk (below_step (bb2_ HB GEd GEr) hb)
         clear HOi HS HD BKd BKr HB
         have HL := n0_
         have HOi := n1_
         have HS := n2_
         have HD := n3_
         have BKd := n4_
         have BKr := n5_
         have HB := n6_
         clear n0_ n1_ n2_ n3_ n4_ n5_ n6_
         clear hb ho32
         refine hK.out _ _ ⟨(blk_cell BKd.out 0).trans rfl, (blk_cell BKd.out 1).trans rfl⟩ (fun hHeld => ?_)
         clear hK K
         refine norm_ (a' := ?_) ?_ ?_
         rotate_left
         ·show Act.put _ (some 32) _ = _
          simp only [Act.put, sA_, sB_, sC_, i64_w, i32_w]
          rfl
         refine two_ (i := 10) (j := 12) (Ni := some 33) (Nj := some 8) #[true, true, true, true, true, true, true, true, true, true, true, false, false, false] #[true, true, true, true, true, true, true, true, true, true, false, false, true, false] rfl rfl rfl rfl (two_of HT_.out (by kernel_rfl)) (by decide) (by decide) (fun K hK => ?_) (fun K hK => ?_)
         ·skip
          obtain ⟨Al, cl, el⟩ := Kd.R_slice HL.out
          subst el
          refine Kd.R_append_rows_step k25 (w0 := w) w.heap.size (by rfl) (.tmp 28) (.tmp 32) 33 25 (.agg #[(.int .i64 0), (.int .i64 0), (.string ⟨#[]⟩), (.string ⟨#[]⟩)]) 48 rfl Try.underlying33 info25 rfl (by decide) (by omega) vd d_ [e_] _ _ _ (fun k_ => some k_ ≠ (.slice Al [e_].length cl : Value).ownBlock) (fun _ => False) rfl rfl ?aO ?aR (fun _ _ h => h) (fun _ h => h.elim) ?aF ?aB ?aS ?aL ?_
          (case aR => exact cr_ HL)
          (case aB => exact (bb2_ HB GEd GEr))
          (case aF => exact (fun k_ hk => Kd.fresh' (Kd.R_lt (ra_ HL)) k_ hk))
          (case aO => exact (ra_ HD))
          (case aS => exact (below_size (bb2_ HB GEd GEr)))
          (case aL => have := LM.out; simp only [List.length_singleton]; omega)
          intro va w34 ho hb hg hat
          rw [← NY.out] at ho
          have n0_ := Aside0.mk (blk_grown (g := gd) (o := .cells #[.slice A0_0 l0_0.length c0_0, .slice A0_1 l0_1.length c0_1, .slice A0_2 l0_2.length c0_2] 35 (0, 0)) (la_ BKd) hg (Kd.R_ne HD.out BKd.out (by decide)))
          have n1_ := Aside0.mk (blk_grown (g := gr) (o := .cells #[.slice none 0 0, .slice none 0 0, .slice none 0 0] 35 (0, 0)) (la_ BKr) hg (Kd.R_ne HD.out BKr.out (by decide)))
          have n2_ := Aside0.mk (Kd.R_over' (ra_ HS) (Kd.R_typed (ra_ HD)) (by decide) hg)
          have n3_ := Aside0.mk (Kd.R_mono ho (fun _ _ => trivial))
          have n4_ := Aside0.mk (hb)
          clear BKd BKr HS HB HL HD HOi ho hb hg hat
          have BKd := n0_
          have BKr := n1_
          have HS := n2_
          have HA := n3_
          have HB := n4_
          clear n0_ n1_ n2_ n3_ n4_
          refine hK.out _ _ ⟨(blk_cell BKd.out 0).trans rfl, (blk_cell BKd.out 1).trans rfl⟩ (fun hHeld => ?_)
          clear hK K
          refine norm_ (a' := ?_) ?_ ?_
          rotate_left
          ·show Act.put _ (some 33) _ = _
           simp only [Act.put, sA_, sB_, sC_, i64_w, i32_w]
           rfl
          obtain ⟨As, cs, es⟩ := Kd.R_slice HS.out
          subst es
          obtain ⟨Aa, ca, ea⟩ := Kd.R_slice HA.out
          subst ea
          refine pu_ (i := 11) (N := some 34) (v := ?_) (a' := ?_) #[true, true, true, true, true, true, true, true, true, true, true, true, false, false] rfl rfl (Or.inl ⟨by rfl, ?_⟩) ?_ ?_
          rotate_left
          ·intro w'
           go_simp
           with_reducible rfl
          rotate_left
          ·simp only [Act.put, sA_, sB_, sC_, i64_w, i32_w]
           rfl
          refine one_ (i := 12) (N := some 8) #[true, true, true, true, true, true, true, true, true, true, true, true, true, false] rfl rfl (one_of HT_.out (by kernel_rfl)) (by decide) (fun K hK => ?_)
          refine box_step (by rfl) (N := 8) ?hd (cs := #[.slice none 0 0, .slice none 0 0, .slice none 0 0]) (t := 35) ?hr ?_; (case hd => rfl); (case hr => first | (go_simp; done) | (go_simp; rfl))
          intro gq hg w40 hbox hb
          have n0_ := Aside0.mk (hbox)
          have n1_ := gy_ hg (bb2_ HB GEd GEr)
          have n2_ := nl_ hg BKd
          have n3_ := nl_ hg BKr
          have n4_ := Aside0.mk (Kd.R_below (ra_ HS) hb)
          have n5_ := Aside0.mk (Kd.R_below (ra_ HA) hb)
          have n6_ := Aside0.mk (lb_ BKd hb)
          have n7_ := Aside0.mk (lb_ BKr hb)
          have n8_ := Aside0.mk (below_step (bb2_ HB GEd GEr) hb)
          clear HS HA BKd BKr HB
          have BKq := n0_
          have GEq := n1_
          have NBdq := n2_
          have NBrq := n3_
          have HS := n4_
          have HA := n5_
          have BKd := n6_
          have BKr := n7_
          have HB := n8_
          clear n0_ n1_ n2_ n3_ n4_ n5_ n6_ n7_ n8_
          clear hb hbox hg
          refine hK.out _ _ ⟨(blk_cell BKd.out 0).trans rfl, (blk_cell BKd.out 1).trans rfl⟩ (fun hHeld => ?_)
          clear hK K
          refine norm_ (a' := ?_) ?_ ?_
          rotate_left
          ·show Act.put _ (some 8) _ = _
           simp only [Act.put, sA_, sB_, sC_, i64_w, i32_w]
           rfl
          exact norm_ (by simp only [putAll, Act.put, List.setIfInBounds_toArray, List.set_cons_zero, List.set_cons_succ]) (hCont (.slice As s_.length cs, vd, .slice Al [e_].length cl, .slice Aa y_.length ca, gq) _ ⟨hHeld, (ra_ HS), (ra_ HA), (la_ BKd), (la_ BKr), (la_ BKq), GEq.out, NBdq.out, NBrq.out, (bb3_ HB GEd GEr GEq)⟩)
         ·skip
          refine box_step (by rfl) (N := 8) ?hd (cs := #[.slice none 0 0, .slice none 0 0, .slice none 0 0]) (t := 35) ?hr ?_; (case hd => rfl); (case hr => first | (go_simp; done) | (go_simp; rfl))
          intro gq hg w40 hbox hb
          have n0_ := Aside0.mk (hbox)
          have n1_ := gy_ hg (bb2_ HB GEd GEr)
          have n2_ := nl_ hg BKd
          have n3_ := nl_ hg BKr
          have n4_ := Aside0.mk (Kd.R_below (ra_ HOi) hb)
          have n5_ := Aside0.mk (Kd.R_below (ra_ HS) hb)
          have n6_ := Aside0.mk (Kd.R_below (ra_ HD) hb)
          have n7_ := Aside0.mk (Kd.R_below (ra_ HL) hb)
          have n8_ := Aside0.mk (lb_ BKd hb)
          have n9_ := Aside0.mk (lb_ BKr hb)
          have n10_ := Aside0.mk (below_step (bb2_ HB GEd GEr) hb)
          clear HOi HS HD HL BKd BKr HB
          have BKq := n0_
          have GEq := n1_
          have NBdq := n2_
          have NBrq := n3_
          have HOi := n4_
          have HS := n5_
          have HD := n6_
          have HL := n7_
          have BKd := n8_
          have BKr := n9_
          have HB := n10_
          clear n0_ n1_ n2_ n3_ n4_ n5_ n6_ n7_ n8_ n9_ n10_
          clear hb hbox hg
          refine hK.out _ _ ⟨(blk_cell BKd.out 0).trans rfl, (blk_cell BKd.out 1).trans rfl⟩ (fun hHeld => ?_)
          clear hK K
          refine norm_ (a' := ?_) ?_ ?_
          rotate_left
          ·show Act.put _ (some 8) _ = _
           simp only [Act.put, sA_, sB_, sC_, i64_w, i32_w]
           rfl
          refine one_ (i := 10) (N := some 33) #[true, true, true, true, true, true, true, true, true, true, true, false, true, false] rfl rfl (one_of HT_.out (by kernel_rfl)) (by decide) (fun K hK => ?_)
          obtain ⟨Al, cl, el⟩ := Kd.R_slice HL.out
          subst el
          refine Kd.R_append_rows_step k25 (w0 := w) w.heap.size (by rfl) (.tmp 28) (.tmp 32) 33 25 (.agg #[(.int .i64 0), (.int .i64 0), (.string ⟨#[]⟩), (.string ⟨#[]⟩)]) 48 rfl Try.underlying33 info25 rfl (by decide) (by omega) vd d_ [e_] _ _ _ (fun k_ => some k_ ≠ (.slice Al [e_].length cl : Value).ownBlock) (fun _ => False) rfl rfl ?aO ?aR (fun _ _ h => h) (fun _ h => h.elim) ?aF ?aB ?aS ?aL ?_
          (case aR => exact cr_ HL)
          (case aB => exact (bb3_ HB GEd GEr GEq))
          (case aF => exact (fun k_ hk => Kd.fresh' (Kd.R_lt (ra_ HL)) k_ hk))
          (case aO => exact (ra_ HD))
          (case aS => exact (below_size (bb3_ HB GEd GEr GEq)))
          (case aL => have := LM.out; simp only [List.length_singleton]; omega)
          intro va w34 ho hb hg hat
          rw [← NY.out] at ho
          have n0_ := Aside0.mk (blk_grown (g := gd) (o := .cells #[.slice A0_0 l0_0.length c0_0, .slice A0_1 l0_1.length c0_1, .slice A0_2 l0_2.length c0_2] 35 (0, 0)) (la_ BKd) hg (Kd.R_ne HD.out BKd.out (by decide)))
          have n1_ := Aside0.mk (blk_grown (g := gr) (o := .cells #[.slice none 0 0, .slice none 0 0, .slice none 0 0] 35 (0, 0)) (la_ BKr) hg (Kd.R_ne HD.out BKr.out (by decide)))
          have n2_ := Aside0.mk (blk_grown (g := gq) (o := .cells #[.slice none 0 0, .slice none 0 0, .slice none 0 0] 35 (0, 0)) (la_ BKq) hg (Kd.R_ne HD.out BKq.out (by decide)))
          have n3_ := Aside0.mk (Kd.R_over' (ra_ HS) (Kd.R_typed (ra_ HD)) (by decide) hg)
          have n4_ := Aside0.mk (Kd.R_mono ho (fun _ _ => trivial))
          have n5_ := Aside0.mk (hb)
          clear BKd BKr BKq HS HB HL HD HOi ho hb hg hat
          have BKd := n0_
          have BKr := n1_
          have BKq := n2_
          have HS := n3_
          have HA := n4_
          have HB := n5_
          clear n0_ n1_ n2_ n3_ n4_ n5_
          refine hK.out _ _ ⟨(blk_cell BKd.out 0).trans rfl, (blk_cell BKd.out 1).trans rfl⟩ (fun hHeld => ?_)
          clear hK K
          refine norm_ (a' := ?_) ?_ ?_
          rotate_left
          ·show Act.put _ (some 33) _ = _
           simp only [Act.put, sA_, sB_, sC_, i64_w, i32_w]
           rfl
          obtain ⟨As, cs, es⟩ := Kd.R_slice HS.out
          subst es
          obtain ⟨Aa, ca, ea⟩ := Kd.R_slice HA.out
          subst ea
          refine pu_ (i := 11) (N := some 34) (v := ?_) (a' := ?_) #[true, true, true, true, true, true, true, true, true, true, true, true, true, false] rfl rfl (Or.inl ⟨by rfl, ?_⟩) ?_ ?_
          rotate_left
          ·intro w'
           go_simp
           with_reducible rfl
          rotate_left
          ·simp only [Act.put, sA_, sB_, sC_, i64_w, i32_w]
           rfl
          exact norm_ (by simp only [putAll, Act.put, List.setIfInBounds_toArray, List.set_cons_zero, List.set_cons_succ]) (hCont (.slice As s_.length cs, vd, .slice Al [e_].length cl, .slice Aa y_.length ca, gq) _ ⟨hHeld, (ra_ HS), (ra_ HA), (la_ BKd), (la_ BKr), (la_ BKq), GEq.out, NBdq.out, NBrq.out, (bb3_ HB GEd GEr GEq)⟩)
        ·skip
         refine box_step (by rfl) (N := 8) ?hd (cs := #[.slice none 0 0, .slice none 0 0, .slice none 0 0]) (t := 35) ?hr ?_; (case hd => rfl); (case hr => first | (go_simp; done) | (go_simp; rfl))
         intro gq hg w40 hbox hb
         have n0_ := Aside0.mk (hbox)
         have n1_ := gy_ hg (bb2_ HB GEd GEr)
         have n2_ := nl_ hg BKd
         have n3_ := nl_ hg BKr
         have n4_ := Aside0.mk (Kd.R_below (ra_ HOi) hb)
         have n5_ := Aside0.mk (Kd.R_below (ra_ HS) hb)
         have n6_ := Aside0.mk (Kd.R_below (ra_ HD) hb)
         have n7_ := Aside0.mk (lb_ BKd hb)
         have n8_ := Aside0.mk (lb_ BKr hb)
         have n9_ := Aside0.mk (below_step (bb2_ HB GEd GEr) hb)
         clear HOi HS HD BKd BKr HB
         have BKq := n0_
         have GEq := n1_
         have NBdq := n2_
         have NBrq := n3_
         have HOi := n4_
         have HS := n5_
         have HD := n6_
         have BKd := n7_
         have BKr := n8_
         have HB := n9_
         clear n0_ n1_ n2_ n3_ n4_ n5_ n6_ n7_ n8_ n9_
         clear hb hbox hg
         refine hK.out _ _ ⟨(blk_cell BKd.out 0).trans rfl, (blk_cell BKd.out 1).trans rfl⟩ (fun hHeld => ?_)
         clear hK K
         refine norm_ (a' := ?_) ?_ ?_
         rotate_left
         ·show Act.put _ (some 8) _ = _
          simp only [Act.put, sA_, sB_, sC_, i64_w, i32_w]
          rfl
         refine one_ (i := 9) (N := some 32) #[true, true, true, true, true, true, true, true, true, true, false, false, true, false] rfl rfl (one_of HT_.out (by kernel_rfl)) (by decide) (fun K hK => ?_)
         refine Kd.R_lit_step k25 _ 25 ?hg (N := 32) ?hd (xs := ([e_] : List S25)) (inner := [.int .i64 e_.f0, .int .i64 e_.f1, .string e_.f2, .string e_.f3]) (ok := fun _ => True) (okp := fun _ => True) ?hr ?hp (fun _ hk => hk) trivial (Below.refl _ _) (Nat.le_refl _) (by simp) ?_; (case hd => rfl); (case hg => rfl); (case hr => first | (go_simp; done) | (go_simp; rfl)); (case hp => exact (Reps.c4 (show Kd.M k25 _ _ _ (e_ : S25) [.int .i64 e_.f0, .int .i64 e_.f1, .string e_.f2, .string e_.f3] from (k25_mkM _ _ _ e_)) (Reps.none _ _)))
         intro vl w31 ho32 hb hg_ hnew_
         clear hg_ hnew_
         have n0_ := Aside0.mk (Kd.R_lower ho32 (below_size (bb3_ HB GEd GEr GEq)))
         have n1_ := Aside0.mk (Kd.R_below (ra_ HOi) hb)
         have n2_ := Aside0.mk (Kd.R_below (ra_ HS) hb)
         have n3_ := Aside0.mk (Kd.R_mono (Kd.R_elder' (ra_ HD) (Kd.R_base ho32) hb) (fun k_ hk_ => hk_.2) : Kd.R k25 25 w31 w.heap.size (fun k_ => some k_ ≠ (vl : Value).ownBlock) vd d_)
         have n4_ := Aside0.mk (lb_ BKd hb)
         have n5_ := Aside0.mk (lb_ BKr hb)
         have n6_ := Aside0.mk (lb_ BKq hb)
         have n7_ := Aside0.mk (below_step (bb3_ HB GEd GEr GEq) hb)
         clear HOi HS HD BKd BKr BKq HB
         have HL := n0_
         have HOi := n1_
         have HS := n2_
         have HD := n3_
         have BKd := n4_
         have BKr := n5_
         have BKq := n6_
         have HB := n7_
         clear n0_ n1_ n2_ n3_ n4_ n5_ n6_ n7_
         clear hb ho32
         refine hK.out _ _ ⟨(blk_cell BKd.out 0).trans rfl, (blk_cell BKd.out 1).trans rfl⟩ (fun hHeld => ?_)
         clear hK K
         refine norm_ (a' := ?_) ?_ ?_
         rotate_left
         ·show Act.put _ (some 32) _ = _
          simp only [Act.put, sA_, sB_, sC_, i64_w, i32_w]
          rfl
         refine one_ (i := 10) (N := some 33) #[true, true, true, true, true, true, true, true, true, true, true, false, true, false] rfl rfl (one_of HT_.out (by kernel_rfl)) (by decide) (fun K hK => ?_)
         obtain ⟨Al, cl, el⟩ := Kd.R_slice HL.out
         subst el
         refine Kd.R_append_rows_step k25 (w0 := w) w.heap.size (by rfl) (.tmp 28) (.tmp 32) 33 25 (.agg #[(.int .i64 0), (.int .i64 0), (.string ⟨#[]⟩), (.string ⟨#[]⟩)]) 48 rfl Try.underlying33 info25 rfl (by decide) (by omega) vd d_ [e_] _ _ _ (fun k_ => some k_ ≠ (.slice Al [e_].length cl : Value).ownBlock) (fun _ => False) rfl rfl ?aO ?aR (fun _ _ h => h) (fun _ h => h.elim) ?aF ?aB ?aS ?aL ?_
         (case aR => exact cr_ HL)
         (case aB => exact (bb3_ HB GEd GEr GEq))
         (case aF => exact (fun k_ hk => Kd.fresh' (Kd.R_lt (ra_ HL)) k_ hk))
         (case aO => exact (ra_ HD))
         (case aS => exact (below_size (bb3_ HB GEd GEr GEq)))
         (case aL => have := LM.out; simp only [List.length_singleton]; omega)
         intro va w34 ho hb hg hat
         rw [← NY.out] at ho
         have n0_ := Aside0.mk (blk_grown (g := gd) (o := .cells #[.slice A0_0 l0_0.length c0_0, .slice A0_1 l0_1.length c0_1, .slice A0_2 l0_2.length c0_2] 35 (0, 0)) (la_ BKd) hg (Kd.R_ne HD.out BKd.out (by decide)))
         have n1_ := Aside0.mk (blk_grown (g := gr) (o := .cells #[.slice none 0 0, .slice none 0 0, .slice none 0 0] 35 (0, 0)) (la_ BKr) hg (Kd.R_ne HD.out BKr.out (by decide)))
         have n2_ := Aside0.mk (blk_grown (g := gq) (o := .cells #[.slice none 0 0, .slice none 0 0, .slice none 0 0] 35 (0, 0)) (la_ BKq) hg (Kd.R_ne HD.out BKq.out (by decide)))
         have n3_ := Aside0.mk (Kd.R_over' (ra_ HS) (Kd.R_typed (ra_ HD)) (by decide) hg)
         have n4_ := Aside0.mk (Kd.R_mono ho (fun _ _ => trivial))
         have n5_ := Aside0.mk (hb)
         clear BKd BKr BKq HS HB HL HD HOi ho hb hg hat
         have BKd := n0_
         have BKr := n1_
         have BKq := n2_
         have HS := n3_
         have HA := n4_
         have HB := n5_
         clear n0_ n1_ n2_ n3_ n4_ n5_
         refine hK.out _ _ ⟨(blk_cell BKd.out 0).trans rfl, (blk_cell BKd.out 1).trans rfl⟩ (fun hHeld => ?_)
         clear hK K
         refine norm_ (a' := ?_) ?_ ?_
         rotate_left
         ·show Act.put _ (some 33) _ = _
          simp only [Act.put, sA_, sB_, sC_, i64_w, i32_w]
          rfl
         obtain ⟨As, cs, es⟩ := Kd.R_slice HS.out
         subst es
         obtain ⟨Aa, ca, ea⟩ := Kd.R_slice HA.out
         subst ea
         refine pu_ (i := 11) (N := some 34) (v := ?_) (a' := ?_) #[true, true, true, true, true, true, true, true, true, true, true, true, true, false] rfl rfl (Or.inl ⟨by rfl, ?_⟩) ?_ ?_
         rotate_left
         ·intro w'
          go_simp
          with_reducible rfl
         rotate_left
         ·simp only [Act.put, sA_, sB_, sC_, i64_w, i32_w]
          rfl
         exact norm_ (by simp only [putAll, Act.put, List.setIfInBounds_toArray, List.set_cons_zero, List.set_cons_succ]) (hCont (.slice As s_.length cs, vd, .slice Al [e_].length cl, .slice Aa y_.length ca, gq) _ ⟨hHeld, (ra_ HS), (ra_ HA), (la_ BKd), (la_ BKr), (la_ BKq), GEq.out, NBdq.out, NBrq.out, (bb3_ HB GEd GEr GEq)⟩)
       ·skip
        refine box_step (by rfl) (N := 8) ?hd (cs := #[.slice none 0 0, .slice none 0 0, .slice none 0 0]) (t := 35) ?hr ?_; (case hd => rfl); (case hr => first | (go_simp; done) | (go_simp; rfl))
        intro gq hg w40 hbox hb
        have n0_ := Aside0.mk (hbox)
        have n1_ := gy_ hg (bb2_ HB GEd GEr)
        have n2_ := nl_ hg BKd
        have n3_ := nl_ hg BKr
        have n4_ := Aside0.mk (Kd.R_below (ra_ HOi) hb)
        have n5_ := Aside0.mk (Kd.R_below (ra_ HS) hb)
        have n6_ := Aside0.mk (Kd.R_below (ra_ HD) hb)
        have n7_ := Aside0.mk (lb_ BKd hb)
        have n8_ := Aside0.mk (lb_ BKr hb)
        have n9_ := Aside0.mk (below_step (bb2_ HB GEd GEr) hb)
        clear HOi HS HD BKd BKr HB
        have BKq := n0_
        have GEq := n1_
        have NBdq := n2_
        have NBrq := n3_
        have HOi := n4_
        have HS := n5_
        have HD := n6_
        have BKd := n7_
        have BKr := n8_
        have HB := n9_
        clear n0_ n1_ n2_ n3_ n4_ n5_ n6_ n7_ n8_ n9_
        clear hb hbox hg
        refine hK.out _ _ ⟨(blk_cell BKd.out 0).trans rfl, (blk_cell BKd.out 1).trans rfl⟩ (fun hHeld => ?_)
        clear hK K
        refine norm_ (a' := ?_) ?_ ?_
        rotate_left
        ·show Act.put _ (some 8) _ = _
         simp only [Act.put, sA_, sB_, sC_, i64_w, i32_w]
         rfl
        refine one_ (i := 8) (N := some 31) #[true, true, true, true, true, true, true, true, true, false, false, false, true, false] rfl rfl (one_of HT_.out (by kernel_rfl)) (by decide) (fun K hK => ?_)
        refine call_ 77 #[.slice Ai its.length ci, .pointer (some ⟨p0, 0, none⟩), .pointer (some ⟨p1, 0, none⟩)] (by rfl) rfl (by have he := fun W_ => enters_ (P := Try.prog) (f := 77) (fn := Try.f77) Try.func77 (by kernel_rfl) rfl #[.slice Ai its.length ci, .pointer (some ⟨p0, 0, none⟩), .pointer (some ⟨p1, 0, none⟩)] W_; unfold execOp; simp [resolve, Deferred.ofValue, invoke, Act.eval, he]) ?_
        with_reducible refine (HF.out its e_ HE_.out _ Ai ci (bb3_ HB GEd GEr GEq) ?side1 (Kd.R_reads' HOi.out).2.1).mono ?_
        (case side1 => exact cr_ HOi)
        rintro e w30 ⟨rfl, hb⟩
        refine ⟨_, rfl, ?_⟩
        have n0_ := Aside0.mk (Kd.R_below (ra_ HOi) hb)
        have n1_ := Aside0.mk (Kd.R_below (ra_ HS) hb)
        have n2_ := Aside0.mk (Kd.R_below (ra_ HD) hb)
        have n3_ := Aside0.mk (lb_ BKd hb)
        have n4_ := Aside0.mk (lb_ BKr hb)
        have n5_ := Aside0.mk (lb_ BKq hb)
        have n6_ := Aside0.mk (below_step (bb3_ HB GEd GEr GEq) hb)
        clear HOi HS HD BKd BKr BKq HB
        have HOi := n0_
        have HS := n1_
        have HD := n2_
        have BKd := n3_
        have BKr := n4_
        have BKq := n5_
        have HB := n6_
        clear n0_ n1_ n2_ n3_ n4_ n5_ n6_
        clear hb
        refine hK.out _ _ ⟨(blk_cell BKd.out 0).trans rfl, (blk_cell BKd.out 1).trans rfl⟩ (fun hHeld => ?_)
        clear hK K
        refine norm_ (a' := ?_) ?_ ?_
        rotate_left
        ·show Act.put _ (some 31) _ = _
         simp only [Act.put, sA_, sB_, sC_, i64_w, i32_w]
         rfl
        refine one_ (i := 9) (N := some 32) #[true, true, true, true, true, true, true, true, true, true, false, false, true, false] rfl rfl (one_of HT_.out (by kernel_rfl)) (by decide) (fun K hK => ?_)
        refine Kd.R_lit_step k25 _ 25 ?hg (N := 32) ?hd (xs := ([e_] : List S25)) (inner := [.int .i64 e_.f0, .int .i64 e_.f1, .string e_.f2, .string e_.f3]) (ok := fun _ => True) (okp := fun _ => True) ?hr ?hp (fun _ hk => hk) trivial (Below.refl _ _) (Nat.le_refl _) (by simp) ?_; (case hd => rfl); (case hg => rfl); (case hr => first | (go_simp; done) | (go_simp; rfl)); (case hp => exact (Reps.c4 (show Kd.M k25 _ _ _ (e_ : S25) [.int .i64 e_.f0, .int .i64 e_.f1, .string e_.f2, .string e_.f3] from (k25_mkM _ _ _ e_)) (Reps.none _ _)))
        intro vl w31 ho32 hb hg_ hnew_
        clear hg_ hnew_
        have n0_ := Aside0.mk (Kd.R_lower ho32 (below_size (bb3_ HB GEd GEr GEq)))
        have n1_ := Aside0.mk (Kd.R_below (ra_ HOi) hb)
        have n2_ := Aside0.mk (Kd.R_below (ra_ HS) hb)
        have n3_ := Aside0.mk (Kd.R_mono (Kd.R_elder' (ra_ HD) (Kd.R_base ho32) hb) (fun k_ hk_ => hk_.2) : Kd.R k25 25 w31 w.heap.size (fun k_ => some k_ ≠ (vl : Value).ownBlock) vd d_)
        have n4_ := Aside0.mk (lb_ BKd hb)
        have n5_ := Aside0.mk (lb_ BKr hb)
        have n6_ := Aside0.mk (lb_ BKq hb)
        have n7_ := Aside0.mk (below_step (bb3_ HB GEd GEr GEq) hb)
        clear HOi HS HD BKd BKr BKq HB
        have HL := n0_
        have HOi := n1_
        have HS := n2_
        have HD := n3_
        have BKd := n4_
        have BKr := n5_
        have BKq := n6_
        have HB := n7_
        clear n0_ n1_ n2_ n3_ n4_ n5_ n6_ n7_
        clear hb ho32
        refine hK.out _ _ ⟨(blk_cell BKd.out 0).trans rfl, (blk_cell BKd.out 1).trans rfl⟩ (fun hHeld => ?_)
        clear hK K
        refine norm_ (a' := ?_) ?_ ?_
        rotate_left
        ·show Act.put _ (some 32) _ = _
         simp only [Act.put, sA_, sB_, sC_, i64_w, i32_w]
         rfl
        refine one_ (i := 10) (N := some 33) #[true, true, true, true, true, true, true, true, true, true, true, false, true, false] rfl rfl (one_of HT_.out (by kernel_rfl)) (by decide) (fun K hK => ?_)
        obtain ⟨Al, cl, el⟩ := Kd.R_slice HL.out
        subst el
        refine Kd.R_append_rows_step k25 (w0 := w) w.heap.size (by rfl) (.tmp 28) (.tmp 32) 33 25 (.agg #[(.int .i64 0), (.int .i64 0), (.string ⟨#[]⟩), (.string ⟨#[]⟩)]) 48 rfl Try.underlying33 info25 rfl (by decide) (by omega) vd d_ [e_] _ _ _ (fun k_ => some k_ ≠ (.slice Al [e_].length cl : Value).ownBlock) (fun _ => False) rfl rfl ?aO ?aR (fun _ _ h => h) (fun _ h => h.elim) ?aF ?aB ?aS ?aL ?_
        (case aR => exact cr_ HL)
        (case aB => exact (bb3_ HB GEd GEr GEq))
        (case aF => exact (fun k_ hk => Kd.fresh' (Kd.R_lt (ra_ HL)) k_ hk))
        (case aO => exact (ra_ HD))
        (case aS => exact (below_size (bb3_ HB GEd GEr GEq)))
        (case aL => have := LM.out; simp only [List.length_singleton]; omega)
        intro va w34 ho hb hg hat
        rw [← NY.out] at ho
        have n0_ := Aside0.mk (blk_grown (g := gd) (o := .cells #[.slice A0_0 l0_0.length c0_0, .slice A0_1 l0_1.length c0_1, .slice A0_2 l0_2.length c0_2] 35 (0, 0)) (la_ BKd) hg (Kd.R_ne HD.out BKd.out (by decide)))
        have n1_ := Aside0.mk (blk_grown (g := gr) (o := .cells #[.slice none 0 0, .slice none 0 0, .slice none 0 0] 35 (0, 0)) (la_ BKr) hg (Kd.R_ne HD.out BKr.out (by decide)))
        have n2_ := Aside0.mk (blk_grown (g := gq) (o := .cells #[.slice none 0 0, .slice none 0 0, .slice none 0 0] 35 (0, 0)) (la_ BKq) hg (Kd.R_ne HD.out BKq.out (by decide)))
        have n3_ := Aside0.mk (Kd.R_over' (ra_ HS) (Kd.R_typed (ra_ HD)) (by decide) hg)
        have n4_ := Aside0.mk (Kd.R_mono ho (fun _ _ => trivial))
        have n5_ := Aside0.mk (hb)
        clear BKd BKr BKq HS HB HL HD HOi ho hb hg hat
        have BKd := n0_
        have BKr := n1_
        have BKq := n2_
        have HS := n3_
        have HA := n4_
        have HB := n5_
        clear n0_ n1_ n2_ n3_ n4_ n5_
        refine hK.out _ _ ⟨(blk_cell BKd.out 0).trans rfl, (blk_cell BKd.out 1).trans rfl⟩ (fun hHeld => ?_)
        clear hK K
        refine norm_ (a' := ?_) ?_ ?_
        rotate_left
        ·show Act.put _ (some 33) _ = _
         simp only [Act.put, sA_, sB_, sC_, i64_w, i32_w]
         rfl
        obtain ⟨As, cs, es⟩ := Kd.R_slice HS.out
        subst es
        obtain ⟨Aa, ca, ea⟩ := Kd.R_slice HA.out
        subst ea
        refine pu_ (i := 11) (N := some 34) (v := ?_) (a' := ?_) #[true, true, true, true, true, true, true, true, true, true, true, true, true, false] rfl rfl (Or.inl ⟨by rfl, ?_⟩) ?_ ?_
        rotate_left
        ·intro w'
         go_simp
         with_reducible rfl
        rotate_left
        ·simp only [Act.put, sA_, sB_, sC_, i64_w, i32_w]
         rfl
        exact norm_ (by simp only [putAll, Act.put, List.setIfInBounds_toArray, List.set_cons_zero, List.set_cons_succ]) (hCont (.slice As s_.length cs, vd, .slice Al [e_].length cl, .slice Aa y_.length ca, gq) _ ⟨hHeld, (ra_ HS), (ra_ HA), (la_ BKd), (la_ BKr), (la_ BKq), GEq.out, NBdq.out, NBrq.out, (bb3_ HB GEd GEr GEq)⟩)
      ·skip
       refine box_step (by rfl) (N := 8) ?hd (cs := #[.slice none 0 0, .slice none 0 0, .slice none 0 0]) (t := 35) ?hr ?_; (case hd => rfl); (case hr => first | (go_simp; done) | (go_simp; rfl))
       intro gq hg w40 hbox hb
       have n0_ := Aside0.mk (hbox)
       have n1_ := gy_ hg (bb2_ HB GEd GEr)
       have n2_ := nl_ hg BKd
       have n3_ := nl_ hg BKr
       have n4_ := Aside0.mk (Kd.R_below (ra_ HOi) hb)
       have n5_ := Aside0.mk (Kd.R_below (ra_ HS) hb)
       have n6_ := Aside0.mk (lb_ BKd hb)
       have n7_ := Aside0.mk (lb_ BKr hb)
       have n8_ := Aside0.mk (below_step (bb2_ HB GEd GEr) hb)
       clear HOi HS BKd BKr HB
       have BKq := n0_
       have GEq := n1_
       have NBdq := n2_
       have NBrq := n3_
       have HOi := n4_
       have HS := n5_
       have BKd := n6_
       have BKr := n7_
       have HB := n8_
       clear n0_ n1_ n2_ n3_ n4_ n5_ n6_ n7_ n8_
       clear hb hbox hg
       refine hK.out _ _ ⟨(blk_cell BKd.out 0).trans rfl, (blk_cell BKd.out 1).trans rfl⟩ (fun hHeld => ?_)
       clear hK K
       refine norm_ (a' := ?_) ?_ ?_
       rotate_left
       ·show Act.put _ (some 8) _ = _
        simp only [Act.put, sA_, sB_, sC_, i64_w, i32_w]
        rfl
       refine one_ (i := 5) (N := some 28) #[true, true, true, true, true, true, true, true, false, false, false, false, true, false] rfl rfl (one_of HT_.out (by kernel_rfl)) (by decide) (fun K hK => ?_)
       refine goes_ Try.func69 (by kernel_rfl) rfl #[.slice A0_1 l0_1.length c0_1] (by rfl) rfl rfl args_ ?_
       with_reducible refine (impl_DeskEdit_69.calls _ _ l0_1 d_ _ ?side1 HC0_1.out HD_.out).mono ?_
       (case side1 => exact (by exact cb_ HR0_1 HB))
       rintro e w29 ⟨vd, rfl, ho0, hb⟩
       refine ⟨_, rfl, ?_⟩
       have n0_ := Aside0.mk (Kd.R_lower ho0 (below_size (bb3_ HB GEd GEr GEq)))
       have n1_ := Aside0.mk (Kd.R_below (ra_ HOi) hb)
       have n2_ := Aside0.mk (Kd.R_below (ra_ HS) hb)
       have n3_ := Aside0.mk (lb_ BKd hb)
       have n4_ := Aside0.mk (lb_ BKr hb)
       have n5_ := Aside0.mk (lb_ BKq hb)
       have n6_ := Aside0.mk (below_step (bb3_ HB GEd GEr GEq) hb)
       clear HOi HS BKd BKr BKq HB
       have HD := n0_
       have HOi := n1_
       have HS := n2_
       have BKd := n3_
       have BKr := n4_
       have BKq := n5_
       have HB := n6_
       clear n0_ n1_ n2_ n3_ n4_ n5_ n6_
       clear hb ho0
       refine hK.out _ _ ⟨(blk_cell BKd.out 0).trans rfl, (blk_cell BKd.out 1).trans rfl⟩ (fun hHeld => ?_)
       clear hK K
       refine norm_ (a' := ?_) ?_ ?_
       rotate_left
       ·show Act.put _ (some 28) _ = _
        simp only [Act.put, sA_, sB_, sC_, i64_w, i32_w]
        rfl
       refine one_ (i := 8) (N := some 31) #[true, true, true, true, true, true, true, true, true, false, false, false, true, false] rfl rfl (one_of HT_.out (by kernel_rfl)) (by decide) (fun K hK => ?_)
       refine call_ 77 #[.slice Ai its.length ci, .pointer (some ⟨p0, 0, none⟩), .pointer (some ⟨p1, 0, none⟩)] (by rfl) rfl (by have he := fun W_ => enters_ (P := Try.prog) (f := 77) (fn := Try.f77) Try.func77 (by kernel_rfl) rfl #[.slice Ai its.length ci, .pointer (some ⟨p0, 0, none⟩), .pointer (some ⟨p1, 0, none⟩)] W_; unfold execOp; simp [resolve, Deferred.ofValue, invoke, Act.eval, he]) ?_
       with_reducible refine (HF.out its e_ HE_.out _ Ai ci (bb3_ HB GEd GEr GEq) ?side1 (Kd.R_reads' HOi.out).2.1).mono ?_
       (case side1 => exact cr_ HOi)
       rintro e w30 ⟨rfl, hb⟩
       refine ⟨_, rfl, ?_⟩
       have n0_ := Aside0.mk (Kd.R_below (ra_ HOi) hb)
       have n1_ := Aside0.mk (Kd.R_below (ra_ HS) hb)
       have n2_ := Aside0.mk (Kd.R_below (ra_ HD) hb)
       have n3_ := Aside0.mk (lb_ BKd hb)
       have n4_ := Aside0.mk (lb_ BKr hb)
       have n5_ := Aside0.mk (lb_ BKq hb)
       have n6_ := Aside0.mk (below_step (bb3_ HB GEd GEr GEq) hb)
       clear HOi HS HD BKd BKr BKq HB
       have HOi := n0_
       have HS := n1_
       have HD := n2_
       have BKd := n3_
       have BKr := n4_
       have BKq := n5_
       have HB := n6_
       clear n0_ n1_ n2_ n3_ n4_ n5_ n6_
       clear hb
       refine hK.out _ _ ⟨(blk_cell BKd.out 0).trans rfl, (blk_cell BKd.out 1).trans rfl⟩ (fun hHeld => ?_)
       clear hK K
       refine norm_ (a' := ?_) ?_ ?_
       rotate_left
       ·show Act.put _ (some 31) _ = _
        simp only [Act.put, sA_, sB_, sC_, i64_w, i32_w]
        rfl
       refine one_ (i := 9) (N := some 32) #[true, true, true, true, true, true, true, true, true, true, false, false, true, false] rfl rfl (one_of HT_.out (by kernel_rfl)) (by decide) (fun K hK => ?_)
       refine Kd.R_lit_step k25 _ 25 ?hg (N := 32) ?hd (xs := ([e_] : List S25)) (inner := [.int .i64 e_.f0, .int .i64 e_.f1, .string e_.f2, .string e_.f3]) (ok := fun _ => True) (okp := fun _ => True) ?hr ?hp (fun _ hk => hk) trivial (Below.refl _ _) (Nat.le_refl _) (by simp) ?_; (case hd => rfl); (case hg => rfl); (case hr => first | (go_simp; done) | (go_simp; rfl)); (case hp => exact (Reps.c4 (show Kd.M k25 _ _ _ (e_ : S25) [.int .i64 e_.f0, .int .i64 e_.f1, .string e_.f2, .string e_.f3] from (k25_mkM _ _ _ e_)) (Reps.none _ _)))
       intro vl w31 ho32 hb hg_ hnew_
       clear hg_ hnew_
       have n0_ := Aside0.mk (Kd.R_lower ho32 (below_size (bb3_ HB GEd GEr GEq)))
       have n1_ := Aside0.mk (Kd.R_below (ra_ HOi) hb)
       have n2_ := Aside0.mk (Kd.R_below (ra_ HS) hb)
       have n3_ := Aside0.mk (Kd.R_mono (Kd.R_elder' (ra_ HD) (Kd.R_base ho32) hb) (fun k_ hk_ => hk_.2) : Kd.R k25 25 w31 w.heap.size (fun k_ => some k_ ≠ (vl : Value).ownBlock) vd d_)
       have n4_ := Aside0.mk (lb_ BKd hb)
       have n5_ := Aside0.mk (lb_ BKr hb)
       have n6_ := Aside0.mk (lb_ BKq hb)
       have n7_ := Aside0.mk (below_step (bb3_ HB GEd GEr GEq) hb)
       clear HOi HS HD BKd BKr BKq HB
       have HL := n0_
       have HOi := n1_
       have HS := n2_
       have HD := n3_
       have BKd := n4_
       have BKr := n5_
       have BKq := n6_
       have HB := n7_
       clear n0_ n1_ n2_ n3_ n4_ n5_ n6_ n7_
       clear hb ho32
       refine hK.out _ _ ⟨(blk_cell BKd.out 0).trans rfl, (blk_cell BKd.out 1).trans rfl⟩ (fun hHeld => ?_)
       clear hK K
       refine norm_ (a' := ?_) ?_ ?_
       rotate_left
       ·show Act.put _ (some 32) _ = _
        simp only [Act.put, sA_, sB_, sC_, i64_w, i32_w]
        rfl
       refine one_ (i := 10) (N := some 33) #[true, true, true, true, true, true, true, true, true, true, true, false, true, false] rfl rfl (one_of HT_.out (by kernel_rfl)) (by decide) (fun K hK => ?_)
       obtain ⟨Al, cl, el⟩ := Kd.R_slice HL.out
       subst el
       refine Kd.R_append_rows_step k25 (w0 := w) w.heap.size (by rfl) (.tmp 28) (.tmp 32) 33 25 (.agg #[(.int .i64 0), (.int .i64 0), (.string ⟨#[]⟩), (.string ⟨#[]⟩)]) 48 rfl Try.underlying33 info25 rfl (by decide) (by omega) vd d_ [e_] _ _ _ (fun k_ => some k_ ≠ (.slice Al [e_].length cl : Value).ownBlock) (fun _ => False) rfl rfl ?aO ?aR (fun _ _ h => h) (fun _ h => h.elim) ?aF ?aB ?aS ?aL ?_
       (case aR => exact cr_ HL)
       (case aB => exact (bb3_ HB GEd GEr GEq))
       (case aF => exact (fun k_ hk => Kd.fresh' (Kd.R_lt (ra_ HL)) k_ hk))
       (case aO => exact (ra_ HD))
       (case aS => exact (below_size (bb3_ HB GEd GEr GEq)))
       (case aL => have := LM.out; simp only [List.length_singleton]; omega)
       intro va w34 ho hb hg hat
       rw [← NY.out] at ho
       have n0_ := Aside0.mk (blk_grown (g := gd) (o := .cells #[.slice A0_0 l0_0.length c0_0, .slice A0_1 l0_1.length c0_1, .slice A0_2 l0_2.length c0_2] 35 (0, 0)) (la_ BKd) hg (Kd.R_ne HD.out BKd.out (by decide)))
       have n1_ := Aside0.mk (blk_grown (g := gr) (o := .cells #[.slice none 0 0, .slice none 0 0, .slice none 0 0] 35 (0, 0)) (la_ BKr) hg (Kd.R_ne HD.out BKr.out (by decide)))
       have n2_ := Aside0.mk (blk_grown (g := gq) (o := .cells #[.slice none 0 0, .slice none 0 0, .slice none 0 0] 35 (0, 0)) (la_ BKq) hg (Kd.R_ne HD.out BKq.out (by decide)))
       have n3_ := Aside0.mk (Kd.R_over' (ra_ HS) (Kd.R_typed (ra_ HD)) (by decide) hg)
       have n4_ := Aside0.mk (Kd.R_mono ho (fun _ _ => trivial))
       have n5_ := Aside0.mk (hb)
       clear BKd BKr BKq HS HB HL HD HOi ho hb hg hat
       have BKd := n0_
       have BKr := n1_
       have BKq := n2_
       have HS := n3_
       have HA := n4_
       have HB := n5_
       clear n0_ n1_ n2_ n3_ n4_ n5_
       refine hK.out _ _ ⟨(blk_cell BKd.out 0).trans rfl, (blk_cell BKd.out 1).trans rfl⟩ (fun hHeld => ?_)
       clear hK K
       refine norm_ (a' := ?_) ?_ ?_
       rotate_left
       ·show Act.put _ (some 33) _ = _
        simp only [Act.put, sA_, sB_, sC_, i64_w, i32_w]
        rfl
       obtain ⟨As, cs, es⟩ := Kd.R_slice HS.out
       subst es
       obtain ⟨Aa, ca, ea⟩ := Kd.R_slice HA.out
       subst ea
       refine pu_ (i := 11) (N := some 34) (v := ?_) (a' := ?_) #[true, true, true, true, true, true, true, true, true, true, true, true, true, false] rfl rfl (Or.inl ⟨by rfl, ?_⟩) ?_ ?_
       rotate_left
       ·intro w'
        go_simp
        with_reducible rfl
       rotate_left
       ·simp only [Act.put, sA_, sB_, sC_, i64_w, i32_w]
        rfl
       exact norm_ (by simp only [putAll, Act.put, List.setIfInBounds_toArray, List.set_cons_zero, List.set_cons_succ]) (hCont (.slice As s_.length cs, vd, .slice Al [e_].length cl, .slice Aa y_.length ca, gq) _ ⟨hHeld, (ra_ HS), (ra_ HA), (la_ BKd), (la_ BKr), (la_ BKq), GEq.out, NBdq.out, NBrq.out, (bb3_ HB GEd GEr GEq)⟩)
     ·skip
      refine box_step (by rfl) (N := 8) ?hd (cs := #[.slice none 0 0, .slice none 0 0, .slice none 0 0]) (t := 35) ?hr ?_; (case hd => rfl); (case hr => first | (go_simp; done) | (go_simp; rfl))
      intro gq hg w40 hbox hb
      have n0_ := Aside0.mk (hbox)
      have n1_ := gy_ hg (bb2_ HB GEd GEr)
      have n2_ := nl_ hg BKd
      have n3_ := nl_ hg BKr
      have n4_ := Aside0.mk (Kd.R_below (ra_ HOi) hb)
      have n5_ := Aside0.mk (lb_ BKd hb)
      have n6_ := Aside0.mk (lb_ BKr hb)
      have n7_ := Aside0.mk (below_step (bb2_ HB GEd GEr) hb)
      clear HOi BKd BKr HB
      have BKq := n0_
      have GEq := n1_
      have NBdq := n2_
      have NBrq := n3_
      have HOi := n4_
      have BKd := n5_
      have BKr := n6_
      have HB := n7_
      clear n0_ n1_ n2_ n3_ n4_ n5_ n6_ n7_
      clear hb hbox hg
      refine hK.out _ _ ⟨(blk_cell BKd.out 0).trans rfl, (blk_cell BKd.out 1).trans rfl⟩ (fun hHeld => ?_)
      clear hK K
      refine norm_ (a' := ?_) ?_ ?_
      rotate_left
      ·show Act.put _ (some 8) _ = _
       simp only [Act.put, sA_, sB_, sC_, i64_w, i32_w]
       rfl
      refine one_ (i := 2) (N := some 25) #[true, true, true, true, true, false, true, true, false, false, false, false, true, false] rfl rfl (one_of HT_.out (by kernel_rfl)) (by decide) (fun K hK => ?_)
      refine goes_ Try.func53 (by kernel_rfl) rfl #[.slice A0_0 l0_0.length c0_0] (by rfl) rfl rfl args_ ?_
      with_reducible refine (slices_Clone_string_string.calls _ _ l0_0 s_ _ ?side1 HC0_0.out HS_.out).mono ?_
      (case side1 => exact (by exact cb_ HR0_0 HB))
      rintro e w28 ⟨vs, rfl, ho0, hb⟩
      refine ⟨_, rfl, ?_⟩
      have n0_ := Aside0.mk (Kd.R_lower ho0 (below_size (bb3_ HB GEd GEr GEq)))
      have n1_ := Aside0.mk (Kd.R_below (ra_ HOi) hb)
      have n2_ := Aside0.mk (lb_ BKd hb)
      have n3_ := Aside0.mk (lb_ BKr hb)
      have n4_ := Aside0.mk (lb_ BKq hb)
      have n5_ := Aside0.mk (below_step (bb3_ HB GEd GEr GEq) hb)
      clear HOi BKd BKr BKq HB
      have HS := n0_
      have HOi := n1_
      have BKd := n2_
      have BKr := n3_
      have BKq := n4_
      have HB := n5_
      clear n0_ n1_ n2_ n3_ n4_ n5_
      clear hb ho0
      refine hK.out _ _ ⟨(blk_cell BKd.out 0).trans rfl, (blk_cell BKd.out 1).trans rfl⟩ (fun hHeld => ?_)
      clear hK K
      refine norm_ (a' := ?_) ?_ ?_
      rotate_left
      ·show Act.put _ (some 25) _ = _
       simp only [Act.put, sA_, sB_, sC_, i64_w, i32_w]
       rfl
      refine one_ (i := 5) (N := some 28) #[true, true, true, true, true, true, true, true, false, false, false, false, true, false] rfl rfl (one_of HT_.out (by kernel_rfl)) (by decide) (fun K hK => ?_)
      refine goes_ Try.func69 (by kernel_rfl) rfl #[.slice A0_1 l0_1.length c0_1] (by rfl) rfl rfl args_ ?_
      with_reducible refine (impl_DeskEdit_69.calls _ _ l0_1 d_ _ ?side1 HC0_1.out HD_.out).mono ?_
      (case side1 => exact (by exact cb_ HR0_1 HB))
      rintro e w29 ⟨vd, rfl, ho0, hb⟩
      refine ⟨_, rfl, ?_⟩
      have n0_ := Aside0.mk (Kd.R_lower ho0 (below_size (bb3_ HB GEd GEr GEq)))
      have n1_ := Aside0.mk (Kd.R_below (ra_ HOi) hb)
      have n2_ := Aside0.mk (Kd.R_below (ra_ HS) hb)
      have n3_ := Aside0.mk (lb_ BKd hb)
      have n4_ := Aside0.mk (lb_ BKr hb)
      have n5_ := Aside0.mk (lb_ BKq hb)
      have n6_ := Aside0.mk (below_step (bb3_ HB GEd GEr GEq) hb)
      clear HOi HS BKd BKr BKq HB
      have HD := n0_
      have HOi := n1_
      have HS := n2_
      have BKd := n3_
      have BKr := n4_
      have BKq := n5_
      have HB := n6_
      clear n0_ n1_ n2_ n3_ n4_ n5_ n6_
      clear hb ho0
      refine hK.out _ _ ⟨(blk_cell BKd.out 0).trans rfl, (blk_cell BKd.out 1).trans rfl⟩ (fun hHeld => ?_)
      clear hK K
      refine norm_ (a' := ?_) ?_ ?_
      rotate_left
      ·show Act.put _ (some 28) _ = _
       simp only [Act.put, sA_, sB_, sC_, i64_w, i32_w]
       rfl
      refine one_ (i := 8) (N := some 31) #[true, true, true, true, true, true, true, true, true, false, false, false, true, false] rfl rfl (one_of HT_.out (by kernel_rfl)) (by decide) (fun K hK => ?_)
      refine call_ 77 #[.slice Ai its.length ci, .pointer (some ⟨p0, 0, none⟩), .pointer (some ⟨p1, 0, none⟩)] (by rfl) rfl (by have he := fun W_ => enters_ (P := Try.prog) (f := 77) (fn := Try.f77) Try.func77 (by kernel_rfl) rfl #[.slice Ai its.length ci, .pointer (some ⟨p0, 0, none⟩), .pointer (some ⟨p1, 0, none⟩)] W_; unfold execOp; simp [resolve, Deferred.ofValue, invoke, Act.eval, he]) ?_
      with_reducible refine (HF.out its e_ HE_.out _ Ai ci (bb3_ HB GEd GEr GEq) ?side1 (Kd.R_reads' HOi.out).2.1).mono ?_
      (case side1 => exact cr_ HOi)
      rintro e w30 ⟨rfl, hb⟩
      refine ⟨_, rfl, ?_⟩
      have n0_ := Aside0.mk (Kd.R_below (ra_ HOi) hb)
      have n1_ := Aside0.mk (Kd.R_below (ra_ HS) hb)
      have n2_ := Aside0.mk (Kd.R_below (ra_ HD) hb)
      have n3_ := Aside0.mk (lb_ BKd hb)
      have n4_ := Aside0.mk (lb_ BKr hb)
      have n5_ := Aside0.mk (lb_ BKq hb)
      have n6_ := Aside0.mk (below_step (bb3_ HB GEd GEr GEq) hb)
      clear HOi HS HD BKd BKr BKq HB
      have HOi := n0_
      have HS := n1_
      have HD := n2_
      have BKd := n3_
      have BKr := n4_
      have BKq := n5_
      have HB := n6_
      clear n0_ n1_ n2_ n3_ n4_ n5_ n6_
      clear hb
      refine hK.out _ _ ⟨(blk_cell BKd.out 0).trans rfl, (blk_cell BKd.out 1).trans rfl⟩ (fun hHeld => ?_)
      clear hK K
      refine norm_ (a' := ?_) ?_ ?_
      rotate_left
      ·show Act.put _ (some 31) _ = _
       simp only [Act.put, sA_, sB_, sC_, i64_w, i32_w]
       rfl
      refine one_ (i := 9) (N := some 32) #[true, true, true, true, true, true, true, true, true, true, false, false, true, false] rfl rfl (one_of HT_.out (by kernel_rfl)) (by decide) (fun K hK => ?_)
      refine Kd.R_lit_step k25 _ 25 ?hg (N := 32) ?hd (xs := ([e_] : List S25)) (inner := [.int .i64 e_.f0, .int .i64 e_.f1, .string e_.f2, .string e_.f3]) (ok := fun _ => True) (okp := fun _ => True) ?hr ?hp (fun _ hk => hk) trivial (Below.refl _ _) (Nat.le_refl _) (by simp) ?_; (case hd => rfl); (case hg => rfl); (case hr => first | (go_simp; done) | (go_simp; rfl)); (case hp => exact (Reps.c4 (show Kd.M k25 _ _ _ (e_ : S25) [.int .i64 e_.f0, .int .i64 e_.f1, .string e_.f2, .string e_.f3] from (k25_mkM _ _ _ e_)) (Reps.none _ _)))
      intro vl w31 ho32 hb hg_ hnew_
      clear hg_ hnew_
      have n0_ := Aside0.mk (Kd.R_lower ho32 (below_size (bb3_ HB GEd GEr GEq)))
      have n1_ := Aside0.mk (Kd.R_below (ra_ HOi) hb)
      have n2_ := Aside0.mk (Kd.R_below (ra_ HS) hb)
      have n3_ := Aside0.mk (Kd.R_mono (Kd.R_elder' (ra_ HD) (Kd.R_base ho32) hb) (fun k_ hk_ => hk_.2) : Kd.R k25 25 w31 w.heap.size (fun k_ => some k_ ≠ (vl : Value).ownBlock) vd d_)
      have n4_ := Aside0.mk (lb_ BKd hb)
      have n5_ := Aside0.mk (lb_ BKr hb)
      have n6_ := Aside0.mk (lb_ BKq hb)
      have n7_ := Aside0.mk (below_step (bb3_ HB GEd GEr GEq) hb)
      clear HOi HS HD BKd BKr BKq HB
      have HL := n0_
      have HOi := n1_
      have HS := n2_
      have HD := n3_
      have BKd := n4_
      have BKr := n5_
      have BKq := n6_
      have HB := n7_
      clear n0_ n1_ n2_ n3_ n4_ n5_ n6_ n7_
      clear hb ho32
      refine hK.out _ _ ⟨(blk_cell BKd.out 0).trans rfl, (blk_cell BKd.out 1).trans rfl⟩ (fun hHeld => ?_)
      clear hK K
      refine norm_ (a' := ?_) ?_ ?_
      rotate_left
      ·show Act.put _ (some 32) _ = _
       simp only [Act.put, sA_, sB_, sC_, i64_w, i32_w]
       rfl
      refine one_ (i := 10) (N := some 33) #[true, true, true, true, true, true, true, true, true, true, true, false, true, false] rfl rfl (one_of HT_.out (by kernel_rfl)) (by decide) (fun K hK => ?_)
      obtain ⟨Al, cl, el⟩ := Kd.R_slice HL.out
      subst el
      refine Kd.R_append_rows_step k25 (w0 := w) w.heap.size (by rfl) (.tmp 28) (.tmp 32) 33 25 (.agg #[(.int .i64 0), (.int .i64 0), (.string ⟨#[]⟩), (.string ⟨#[]⟩)]) 48 rfl Try.underlying33 info25 rfl (by decide) (by omega) vd d_ [e_] _ _ _ (fun k_ => some k_ ≠ (.slice Al [e_].length cl : Value).ownBlock) (fun _ => False) rfl rfl ?aO ?aR (fun _ _ h => h) (fun _ h => h.elim) ?aF ?aB ?aS ?aL ?_
      (case aR => exact cr_ HL)
      (case aB => exact (bb3_ HB GEd GEr GEq))
      (case aF => exact (fun k_ hk => Kd.fresh' (Kd.R_lt (ra_ HL)) k_ hk))
      (case aO => exact (ra_ HD))
      (case aS => exact (below_size (bb3_ HB GEd GEr GEq)))
      (case aL => have := LM.out; simp only [List.length_singleton]; omega)
      intro va w34 ho hb hg hat
      rw [← NY.out] at ho
      have n0_ := Aside0.mk (blk_grown (g := gd) (o := .cells #[.slice A0_0 l0_0.length c0_0, .slice A0_1 l0_1.length c0_1, .slice A0_2 l0_2.length c0_2] 35 (0, 0)) (la_ BKd) hg (Kd.R_ne HD.out BKd.out (by decide)))
      have n1_ := Aside0.mk (blk_grown (g := gr) (o := .cells #[.slice none 0 0, .slice none 0 0, .slice none 0 0] 35 (0, 0)) (la_ BKr) hg (Kd.R_ne HD.out BKr.out (by decide)))
      have n2_ := Aside0.mk (blk_grown (g := gq) (o := .cells #[.slice none 0 0, .slice none 0 0, .slice none 0 0] 35 (0, 0)) (la_ BKq) hg (Kd.R_ne HD.out BKq.out (by decide)))
      have n3_ := Aside0.mk (Kd.R_over' (ra_ HS) (Kd.R_typed (ra_ HD)) (by decide) hg)
      have n4_ := Aside0.mk (Kd.R_mono ho (fun _ _ => trivial))
      have n5_ := Aside0.mk (hb)
      clear BKd BKr BKq HS HB HL HD HOi ho hb hg hat
      have BKd := n0_
      have BKr := n1_
      have BKq := n2_
      have HS := n3_
      have HA := n4_
      have HB := n5_
      clear n0_ n1_ n2_ n3_ n4_ n5_
      refine hK.out _ _ ⟨(blk_cell BKd.out 0).trans rfl, (blk_cell BKd.out 1).trans rfl⟩ (fun hHeld => ?_)
      clear hK K
      refine norm_ (a' := ?_) ?_ ?_
      rotate_left
      ·show Act.put _ (some 33) _ = _
       simp only [Act.put, sA_, sB_, sC_, i64_w, i32_w]
       rfl
      obtain ⟨As, cs, es⟩ := Kd.R_slice HS.out
      subst es
      obtain ⟨Aa, ca, ea⟩ := Kd.R_slice HA.out
      subst ea
      refine pu_ (i := 11) (N := some 34) (v := ?_) (a' := ?_) #[true, true, true, true, true, true, true, true, true, true, true, true, true, false] rfl rfl (Or.inl ⟨by rfl, ?_⟩) ?_ ?_
      rotate_left
      ·intro w'
       go_simp
       with_reducible rfl
      rotate_left
      ·simp only [Act.put, sA_, sB_, sC_, i64_w, i32_w]
       rfl
      exact norm_ (by simp only [putAll, Act.put, List.setIfInBounds_toArray, List.set_cons_zero, List.set_cons_succ]) (hCont (.slice As s_.length cs, vd, .slice Al [e_].length cl, .slice Aa y_.length ca, gq) _ ⟨hHeld, (ra_ HS), (ra_ HA), (la_ BKd), (la_ BKr), (la_ BKq), GEq.out, NBdq.out, NBrq.out, (bb3_ HB GEd GEr GEq)⟩)
    rintro ⟨vs, vd, vl, va, gq⟩ w33 ⟨hHeld, h0_, h1_, h2_, h3_, h4_, h5_, h6_, h7_, h8_⟩
    clear BKd BKr HB HOi
    have HS : Aside0 (Kd.R Kd.string 9 w33 w.heap.size (fun _ => True) vs s_) := ⟨h0_⟩
    have HA : Aside0 (Kd.R k25 25 w33 w.heap.size (fun _ => True) va y_) := ⟨h1_⟩
    have BKd : Aside0 (w33.heap[gd]? = some (.cells #[.slice A0_0 l0_0.length c0_0, .slice A0_1 l0_1.length c0_1, .slice A0_2 l0_2.length c0_2] 35 (0, 0))) := ⟨h2_⟩
    have BKr : Aside0 (w33.heap[gr]? = some (.cells #[.slice none 0 0, .slice none 0 0, .slice none 0 0] 35 (0, 0))) := ⟨h3_⟩
    have BKq : Aside0 (w33.heap[gq]? = some (.cells #[.slice none 0 0, .slice none 0 0, .slice none 0 0] 35 (0, 0))) := ⟨h4_⟩
    have GEq := Aside0.mk h5_
    have NBdq := Aside0.mk h6_
    have NBrq := Aside0.mk h7_
    have HB : Aside0 (Below w.heap.size w w33) := ⟨h8_⟩
    clear h0_ h1_ h2_ h3_ h4_ h5_ h6_ h7_ h8_
    replace hHeld : w33.cell? ⟨gd, 0, none⟩ = some (.slice A0_0 l0_0.length c0_0) ∧ w33.cell? ⟨gd, 1, none⟩ = some (.slice A0_1 l0_1.length c0_1) := hHeld
    obtain ⟨As, cs, es⟩ := Kd.R_slice HS.out
    subst es
    obtain ⟨Aa, ca, ea⟩ := Kd.R_slice HA.out
    subst ea
    refine norm_ (a' := ?_) ?_ ?_
    rotate_left
    ·simp only [putAll, Act.put, List.setIfInBounds_toArray, List.set_cons_zero, List.set_cons_succ]
     rfl
    refine one_ (i := 13) (N := none) #[true, true, true, true, true, true, true, true, true, true, true, true, true, true] rfl rfl (one_of HT_.out (by kernel_rfl)) (by decide) (fun K hK => ?_)
    have hs0 := cz0_ BKq
    have hfs0 := fz_ BKq 0
    have hs1 := cz1_ BKq
    have hfs1 := fz_ BKq 1
    have hs2 := cz2_ BKq
    have hfs2 := fz_ BKq 2
    have hnq := NBdq.out
    have hnq2 := NBdq.out.symm
    refine skip_ (w1 := ?_) (by rfl) rfl ?_ ?_
    rotate_left
    ·go_simp
     rfl
    refine hK.out _ _ ⟨((cell_far (p := ⟨gq, _, none⟩) NBdq.out _).trans ((cell_far (p := ⟨gq, _, none⟩) NBdq.out _).trans ((cell_far (p := ⟨gq, _, none⟩) NBdq.out _).trans (hHeld.1)))), ((cell_far (p := ⟨gq, _, none⟩) NBdq.out _).trans ((cell_far (p := ⟨gq, _, none⟩) NBdq.out _).trans ((cell_far (p := ⟨gq, _, none⟩) NBdq.out _).trans (hHeld.2))))⟩ (fun hHeld => ?_)
    clear hK K
    clear hs0 hs1 hs2 hfs0 hfs1 hfs2
    refine done_ (done_of HT_.out (by kernel_rfl)) ?_
    have m0_ : Aside0 (Kd.R Kd.string 9 (((w33.setCell ⟨gq, 0, none⟩ (.slice As s_.length cs)).setCell ⟨gq, 1, none⟩ (.slice Aa y_.length ca)).setCell ⟨gq, 2, none⟩ (.slice none 0 0)) w.heap.size (fun _ => True) (.slice As s_.length cs) s_) := ⟨(fm_ (fr_ (fr_ (fr_ (ft_ HS BKq) 0 (.slice As s_.length cs)) 1 (.slice Aa y_.length ca)) 2 (.slice none 0 0)))⟩
    have m1_ : Aside0 (Kd.R k25 25 (((w33.setCell ⟨gq, 0, none⟩ (.slice As s_.length cs)).setCell ⟨gq, 1, none⟩ (.slice Aa y_.length ca)).setCell ⟨gq, 2, none⟩ (.slice none 0 0)) w.heap.size (fun _ => True) (.slice Aa y_.length ca) y_) := ⟨(fm_ (fr_ (fr_ (fr_ (ft_ HA BKq) 0 (.slice As s_.length cs)) 1 (.slice Aa y_.length ca)) 2 (.slice none 0 0)))⟩
    have m2_ : Aside0 ((((w33.setCell ⟨gq, 0, none⟩ (.slice As s_.length cs)).setCell ⟨gq, 1, none⟩ (.slice Aa y_.length ca)).setCell ⟨gq, 2, none⟩ (.slice none 0 0)).heap[gr]? = some (.cells #[.slice none 0 0, .slice none 0 0, .slice none 0 0] 35 (0, 0))) := ⟨blk_far (blk_far (blk_far BKr.out NBrq.out _) NBrq.out _) NBrq.out _⟩
    have m3_ : Aside0 ((((w33.setCell ⟨gq, 0, none⟩ (.slice As s_.length cs)).setCell ⟨gq, 1, none⟩ (.slice Aa y_.length ca)).setCell ⟨gq, 2, none⟩ (.slice none 0 0)).heap[gq]? = some (.cells #[.slice As s_.length cs, .slice Aa y_.length ca, .slice none 0 0] 35 (0, 0))) := ⟨blk_put (cs := #[.slice As s_.length cs, .slice Aa y_.length ca, .slice none 0 0]) (blk_put (cs := #[.slice As s_.length cs, .slice none 0 0, .slice none 0 0]) (blk_put (cs := #[.slice none 0 0, .slice none 0 0, .slice none 0 0]) BKq.out 0 _ rfl) 1 _ rfl) 2 _ rfl⟩
    have m4_ : Aside0 (Below w.heap.size w (((w33.setCell ⟨gq, 0, none⟩ (.slice As s_.length cs)).setCell ⟨gq, 1, none⟩ (.slice Aa y_.length ca)).setCell ⟨gq, 2, none⟩ (.slice none 0 0))) := ⟨bS_ (bS_ (bS_ HB.out GEq.out) GEq.out) GEq.out⟩
    generalize (((w33.setCell ⟨gq, 0, none⟩ (.slice As s_.length cs)).setCell ⟨gq, 1, none⟩ (.slice Aa y_.length ca)).setCell ⟨gq, 2, none⟩ (.slice none 0 0)) = w50 at m0_ m1_ m2_ m3_ m4_ ⊢
    clear HS HA BKr BKq HB BKd hHeld HT_ HW_
    have HS := m0_
    have HA := m1_
    have BKr := m2_
    have BKq := m3_
    have HB := m4_
    clear m0_ m1_ m2_ m3_ m4_
    have hq0 := cz0_ BKq
    have hq1 := cz1_ BKq
    have hq2 := cz2_ BKq
    have h := HH.out
    clear HH
    by_cases ht : t_ = true
    ·subst ht
     simp only [if_true, Option.some.injEq, Prod.mk.injEq] at h
     obtain ⟨rfl, rfl, rfl, rfl⟩ := h
     go_wp2_with (go_at_call 31; (refine (impl_IsDesk.calls k _ _ s_ _ _ y_ none 0 ([] : List S25) _ _ ?s1 (Kd.R_reads' HS.out).2.1 ?s3 (Kd.R_reads' HA.out).2.1 ?s5 (Nat.zero_le _) HT_D.out).mono ?_); (case s1 => exact cr_ HS); (case s3 => exact cr_ HA); (case s5 => exact (Kd.R_reads' (Kd.R_nil k25 25 _ 0 (fun _ => True))).2.2); rintro e w60 ⟨rfl, hb⟩; have n0_ := Aside0.mk (Kd.R_below (ra_ HS) hb); have n1_ := Aside0.mk (Kd.R_below (ra_ HA) hb); have n2_ := Aside0.mk (lb_ BKr hb); have n3_ := Aside0.mk (lb_ BKq hb); have n4_ := Aside0.mk (below_step (bb_ HB) hb); clear HS HA BKr BKq HB; have HS := n0_; have HA := n1_; have BKr := n2_; have BKq := n3_; have HB := n4_; clear n0_ n1_ n2_ n3_ n4_ hb; have hcr0 := cz0_ BKr; have hcr1 := cz1_ BKr; have hcr2 := cz2_ BKr; have hfr0 := fz_ BKr 0; have hfr1 := fz_ BKr 1; have hfr2 := fz_ BKr 2; have hq0 := cz0_ BKq; have hq1 := cz1_ BKq; have hq2 := cz2_ BKq)
     refine bodyPost_ret (results_ct rfl _ _ gr 35 #[.slice As s_.length cs, .slice Aa y_.length ca, .slice none 0 0] (0, 0) _ rfl (by (with_reducible repeat (first | apply lN_ | apply lD_ | apply lA_)); refine blk_put (cs := #[.slice As s_.length cs, .slice Aa y_.length ca, .slice none 0 0]) ?_ 2 _ rfl; (with_reducible repeat (first | apply lN_ | apply lD_ | apply lA_)); refine blk_put (cs := #[.slice As s_.length cs, .slice none 0 0, .slice none 0 0]) ?_ 1 _ rfl; (with_reducible repeat (first | apply lN_ | apply lD_ | apply lA_)); refine blk_put (cs := #[.slice none 0 0, .slice none 0 0, .slice none 0 0]) ?_ 0 _ rfl; (with_reducible repeat (first | apply lN_ | apply lD_ | apply lA_)); exact BKr.out) Try.underlying35 rfl (by kernel_rfl)) rfl ?_
     exact ⟨_, _, _, by first | rfl | (simp; done), by (with_reducible repeat (first | apply rA_ | apply rN_ | apply rD_)); exact Kd.R_mono (fr_ (fr_ (fr_ (ft_ HS BKr) 0 (.slice As s_.length cs)) 1 (.slice Aa y_.length ca)) 2 (.slice none 0 0)) (fun _ _ => trivial), by (with_reducible repeat (first | apply rA_ | apply rN_ | apply rD_)); exact Kd.R_mono (fr_ (fr_ (fr_ (ft_ HA BKr) 0 (.slice As s_.length cs)) 1 (.slice Aa y_.length ca)) 2 (.slice none 0 0)) (fun k_ _ => by simp [Value.ownBlock]), Kd.R_nil _ _ _ _ _, bb2_ HB GEq GEr⟩
    ·replace ht := Bool.eq_false_iff.mpr ht
     subst ht
     simp only [Bool.false_eq_true, if_false, Option.some.injEq, Prod.mk.injEq] at h
     obtain ⟨rfl, rfl, rfl, rfl⟩ := h
     go_wp2_with (go_at_call 31; (refine (impl_IsDesk.calls k _ _ s_ _ _ y_ none 0 ([] : List S25) _ _ ?s1 (Kd.R_reads' HS.out).2.1 ?s3 (Kd.R_reads' HA.out).2.1 ?s5 (Nat.zero_le _) HT_D.out).mono ?_); (case s1 => exact cr_ HS); (case s3 => exact cr_ HA); (case s5 => exact (Kd.R_reads' (Kd.R_nil k25 25 _ 0 (fun _ => True))).2.2); rintro e w60 ⟨rfl, hb⟩; have n0_ := Aside0.mk (Kd.R_below (ra_ HS) hb); have n1_ := Aside0.mk (Kd.R_below (ra_ HA) hb); have n2_ := Aside0.mk (lb_ BKr hb); have n3_ := Aside0.mk (lb_ BKq hb); have n4_ := Aside0.mk (below_step (bb_ HB) hb); clear HS HA BKr BKq HB; have HS := n0_; have HA := n1_; have BKr := n2_; have BKq := n3_; have HB := n4_; clear n0_ n1_ n2_ n3_ n4_ hb; have hcr0 := cz0_ BKr; have hcr1 := cz1_ BKr; have hcr2 := cz2_ BKr; have hfr0 := fz_ BKr 0; have hfr1 := fz_ BKr 1; have hfr2 := fz_ BKr 2; have hq0 := cz0_ BKq; have hq1 := cz1_ BKq; have hq2 := cz2_ BKq)
     refine bodyPost_ret (results_ct rfl _ _ gr 35 #[.slice none 0 0, .slice none 0 0, .slice none 0 0] (0, 0) _ rfl (by (with_reducible repeat (first | apply lN_ | apply lD_ | apply lA_)); refine blk_put (cs := #[.slice none 0 0, .slice none 0 0, .slice none 0 0]) ?_ 2 _ rfl; (with_reducible repeat (first | apply lN_ | apply lD_ | apply lA_)); refine blk_put (cs := #[.slice none 0 0, .slice none 0 0, .slice none 0 0]) ?_ 1 _ rfl; (with_reducible repeat (first | apply lN_ | apply lD_ | apply lA_)); refine blk_put (cs := #[.slice none 0 0, .slice none 0 0, .slice none 0 0]) ?_ 0 _ rfl; (with_reducible repeat (first | apply lN_ | apply lD_ | apply lA_)); exact BKr.out) Try.underlying35 rfl (by kernel_rfl)) rfl ?_
     exact ⟨_, _, _, by first | rfl | (simp; done), Kd.R_nil _ _ _ _ _, Kd.R_nil _ _ _ _ _, Kd.R_nil _ _ _ _ _, bb2_ HB GEq GEr⟩
   ·rw [if_neg hsz] at h
    exact absurd h (by simp)
 ·replace hok := Bool.eq_false_iff.mpr hok
  subst hok
  simp only [Bool.false_eq_true, if_false, Option.some.injEq, Prod.mk.injEq] at h
  obtain ⟨rfl, rfl, rfl, rfl⟩ := h
  go_enter Try.func72, Try.ntmps72
  go_wp2_with (first | ((with_reducible refine gate_dst (N := 2) rfl ?_); refine box_event ?hg (N := 2) ?hd (cs := #[.slice A0_0 l0_0.length c0_0, .slice A0_1 l0_1.length c0_1, .slice A0_2 l0_2.length c0_2]) (t := 35) ?hr ?_; (case hd => rfl); (case hg => rfl); (case hr => first | (go_simp; done) | (go_simp; rfl)); intro gd hg w3 hbox hb; have n0_ := Aside0.mk (bt_ HB hb); have n1_ := Aside0.mk (hbox); have n3_ := gz_ hg HB; clear HB; have HB := n0_; have BKd := n1_; have GEd := n3_; clear n0_ n1_ n3_; clear hb hbox hg) | ((with_reducible refine gate_dst (N := 4) rfl ?_); refine box_event ?hg (N := 4) ?hd (cs := #[.slice none 0 0, .slice none 0 0, .slice none 0 0]) (t := 35) ?hr ?_; (case hd => rfl); (case hg => rfl); (case hr => first | (go_simp; done) | (go_simp; rfl)); intro gr hg w4 hbox hb; have n0_ := Aside0.mk (lb_ BKd hb); have n1_ := Aside0.mk (below_step (bb1_ HB GEd) hb); have n2_ := Aside0.mk (hbox); have n3_ := gy_ hg (bb1_ HB GEd); have n5_ := nl_ hg BKd; clear BKd HB; have BKd := n0_; have HB := n1_; have BKr := n2_; have GEr := n3_; have NBdr := n5_; clear n0_ n1_ n2_ n3_ n5_; clear hb hbox hg; have hcz0 := cz0_ BKd; have hcz1 := cz1_ BKd; have hcz2 := cz2_ BKd) | (go_at_call 36; (with_reducible refine (impl_ItemsNow.calls k _ _ l0_0 _ _ l0_1 _ _ l0_2 its _ _ ?s1 HC0_0.out ?s3 HC0_1.out ?s5 HC0_2.out HI.out).mono ?_); (case s1 => exact (by exact cb_ HR0_0 HB)); (case s3 => exact (by exact cb_ HR0_1 HB)); (case s5 => exact (by exact cb_ HR0_2 HB)); rintro e w5 ⟨vi, rfl, ho0, hb⟩; have n0_ := Aside0.mk (lb_ BKd hb); have n1_ := Aside0.mk (lb_ BKr hb); have n2_ := Aside0.mk (below_step (bb2_ HB GEd GEr) hb); have n3_ := Aside0.mk (Kd.R_lower ho0 (below_size (bb2_ HB GEd GEr))); clear BKd BKr HB; have BKd := n0_; have BKr := n1_; have HB := n2_; have HOi := n3_; clear n0_ n1_ n2_ n3_ hb ho0 hcz0 hcz1 hcz2; obtain ⟨Ai, ci, ei⟩ := Kd.R_slice HOi.out; subst ei; have hcz0 := cz0_ BKd; have hcz1 := cz1_ BKd; have hcr0 := cz0_ BKr; have hcr1 := cz1_ BKr; have hcr2 := cz2_ BKr; have hfr0 := fz_ BKr 0; have hfr1 := fz_ BKr 1; have hfr2 := fz_ BKr 2; have hnb := NBdr.out; have hnb2 := NBdr.out.symm))
  refine bodyPost_ret (results_ct rfl _ _ gr 35 #[.slice none 0 0, .slice none 0 0, .slice none 0 0] (0, 0) _ rfl (by (with_reducible repeat (first | apply lN_ | apply lD_ | apply lA_)); refine blk_put (cs := #[.slice none 0 0, .slice none 0 0, .slice none 0 0]) ?_ 2 _ rfl; (with_reducible repeat (first | apply lN_ | apply lD_ | apply lA_)); refine blk_put (cs := #[.slice none 0 0, .slice none 0 0, .slice none 0 0]) ?_ 1 _ rfl; (with_reducible repeat (first | apply lN_ | apply lD_ | apply lA_)); refine blk_put (cs := #[.slice none 0 0, .slice none 0 0, .slice none 0 0]) ?_ 0 _ rfl; (with_reducible repeat (first | apply lN_ | apply lD_ | apply lA_)); exact BKr.out) Try.underlying35 rfl (by kernel_rfl)) rfl ?_
  exact ⟨_, _, _, by first | rfl | (simp; done), Kd.R_nil _ _ _ _ _, Kd.R_nil _ _ _ _ _, Kd.R_nil _ _ _ _ _, bb2_ HB GEd GEr⟩
set_option maxHeartbeats 8000000 in
set_option maxRecDepth 100000 in
theorem impl_ReplaceItem.calls (k : Nat) (A0_0 : Option Addr) (c0_0 : Nat) (l0_0 : List ByteArray) (A0_1 : Option Addr) (c0_1 : Nat) (l0_1 : List S25) (A0_2 : Option Addr) (c0_2 : Nat) (l0_2 : List S25) (a1 : Int) (a2 : ByteArray) (r1 : List ByteArray) (r2 r3 : List S25) (r4 : Bool) (w : World) (hr0_0 : Kd.C Kd.string w A0_0 l0_0.length l0_0) (hc0_0 : l0_0.length ≤ c0_0) (hr0_1 : Kd.C k25 w A0_1 l0_1.length l0_1) (hc0_1 : l0_1.length ≤ c0_1) (hr0_2 : Kd.C k25 w A0_2 l0_2.length l0_2) (hc0_2 : l0_2.length ≤ c0_2) (h : impl_ReplaceItem.f k l0_0 l0_1 l0_2 a1 a2 = some (r1, r2, r3, r4)) :
  Calls Try.prog 48 #[.agg #[.slice A0_0 l0_0.length c0_0, .slice A0_1 l0_1.length c0_1, .slice A0_2 l0_2.length c0_2], .int .i64 a1, .string a2] w fun e w' => ∃ v0_ v1_ v2_ : Value, e = .returned (.tuple #[.agg #[v0_, v1_, v2_], .bool r4]) ∧ Kd.R Kd.string 9 w' w.heap.size (fun _ => True) v0_ r1 ∧ Kd.R k25 25 w' w.heap.size (fun k_ => some k_ ≠ (v2_ : Value).ownBlock) v1_ r2 ∧ Kd.R k25 25 w' w.heap.size (fun k_ => some k_ ≠ (v1_ : Value).ownBlock) v2_ r3 ∧ Below w.heap.size w w' := by
 have hu35 := Try.underlying35
 have HR0_0 := Aside0.mk hr0_0
 have HC0_0 := Aside0.mk hc0_0
 have HR0_1 := Aside0.mk hr0_1
 have HC0_1 := Aside0.mk hc0_1
 have HR0_2 := Aside0.mk hr0_2
 have HC0_2 := Aside0.mk hc0_2
 have H := Aside0.mk h
 clear hr0_0 hc0_0 hr0_1 hc0_1 hr0_2 hc0_2 h
 have HB := Aside0.mk (Below.refl w.heap.size w)
 go_enter Try.func48, Try.ntmps48
 go_wp2_with (first | ((with_reducible refine gate_dst (N := 3) rfl ?_); refine box_event ?hg (N := 3) ?hd (cs := #[.slice A0_0 l0_0.length c0_0, .slice A0_1 l0_1.length c0_1, .slice A0_2 l0_2.length c0_2]) (t := 35) ?hr ?_; (case hd => rfl); (case hg => rfl); (case hr => first | (go_simp; done) | (go_simp; rfl)); intro gd hg wd hbox hb; have n0_ := Aside0.mk (hbox); have n1_ := Aside0.mk ((by rw [hg]; exact (below_size (bb_ HB)) : w.heap.size ≤ gd)); have n2_ := Aside0.mk (below_step (bb_ HB) hb); clear HB; have BKd := n0_; have GEd := n1_; have HB := n2_; clear n0_ n1_ n2_ hb hbox hg) | ((with_reducible refine gate_dst (N := 4) rfl ?_); refine box_event ?hg (N := 4) ?hd (cs := #[.int .i64 a1]) (t := 3) ?hr ?_; (case hd => rfl); (case hg => rfl); (case hr => first | (go_simp; done) | (go_simp; rfl)); intro ga hg wa hbox hb; have n0_ := Aside0.mk (hbox); have n1_ := gy_ hg (bb1_ HB GEd); have n2_ := Aside0.mk (lb_ BKd hb); have n3_ := Aside0.mk (below_step (bb1_ HB GEd) hb); clear BKd HB; have BKa := n0_; have GEa := n1_; have BKd := n2_; have HB := n3_; clear n0_ n1_ n2_ n3_ hb hbox hg) | ((with_reducible refine gate_dst (N := 5) rfl ?_); refine box_event ?hg (N := 5) ?hd (cs := #[.string a2]) (t := 9) ?hr ?_; (case hd => rfl); (case hg => rfl); (case hr => first | (go_simp; done) | (go_simp; rfl)); intro gb hg wb hbox hb; have n0_ := Aside0.mk (hbox); have n1_ := gy_ hg (bb2_ HB GEd GEa); have n2_ := Aside0.mk (lb_ BKd hb); have n3_ := Aside0.mk (lb_ BKa hb); have n4_ := Aside0.mk (below_step (bb2_ HB GEd GEa) hb); clear BKd BKa HB; have BKb := n0_; have GEb := n1_; have BKd := n2_; have BKa := n3_; have HB := n4_; clear n0_ n1_ n2_ n3_ n4_ hb hbox hg) | ((with_reducible refine gate_dst (N := 6) rfl ?_); refine box_event ?hg (N := 6) ?hd (cs := #[.slice none 0 0, .slice none 0 0, .slice none 0 0]) (t := 35) ?hr ?_; (case hd => rfl); (case hg => rfl); (case hr => first | (go_simp; done) | (go_simp; rfl)); intro gr hg wr hbox hb; have n0_ := Aside0.mk (hbox); have n1_ := gy_ hg (bb3_ HB GEd GEa GEb); have n2_ := Aside0.mk (lb_ BKd hb); have n3_ := Aside0.mk (lb_ BKa hb); have n4_ := Aside0.mk (lb_ BKb hb); have n5_ := Aside0.mk (below_step (bb3_ HB GEd GEa GEb) hb); have n6_ := Aside0.mk ((by rw [hg]; exact Nat.ne_of_lt (blk_lt (la_ BKd : _ = some (.cells #[.slice A0_0 l0_0.length c0_0, .slice A0_1 l0_1.length c0_1, .slice A0_2 l0_2.length c0_2] 35 (0, 0)))) : gd ≠ gr)); clear BKd BKa BKb HB; have BKr := n0_; have GEr := n1_; have BKd := n2_; have BKa := n3_; have BKb := n4_; have HB := n5_; have NBdr := n6_; clear n0_ n1_ n2_ n3_ n4_ n5_ n6_ hb hbox hg; have hcz0 := cz0_ BKd; have hcz1 := cz1_ BKd; have hcz2 := cz2_ BKd) | (go_at_call 72; (with_reducible refine (impl_ReplaceItem.edited k _ _ l0_0 _ _ l0_1 _ _ l0_2 a1 a2 ga gb r1 r2 r3 r4 _ ?s1 HC0_0.out ?s3 HC0_1.out ?s5 HC0_2.out ?c0 ?c1 H.out).mono ?_); (case s1 => exact (by exact cb_ HR0_0 HB)); (case s3 => exact (by exact cb_ HR0_1 HB)); (case s5 => exact (by exact cb_ HR0_2 HB)); (case c0 => exact (la_ BKa)); (case c1 => exact (la_ BKb)); rintro e wz ⟨v0, v1, v2, rfl, ho0, ho1, ho2, hb⟩; have n0_ := Aside0.mk (lb_ BKr hb); have n1_ := Aside0.mk (below_step (bb4_ HB GEd GEa GEb GEr) hb); have n2_ := Aside0.mk (Kd.R_lower ho0 (below_size (bb4_ HB GEd GEa GEb GEr))); have n3_ := Aside0.mk (Kd.R_lower ho1 (below_size (bb4_ HB GEd GEa GEb GEr))); have n4_ := Aside0.mk (Kd.R_lower ho2 (below_size (bb4_ HB GEd GEa GEb GEr))); clear BKr HB; have BKr := n0_; have HB := n1_; have HO0 := n2_; have HO1 := n3_; have HO2 := n4_; clear n0_ n1_ n2_ n3_ n4_ hb ho0 ho1 ho2 hcz0 hcz1 hcz2; obtain ⟨B0, d0, e0⟩ := Kd.R_slice HO0.out; subst e0; obtain ⟨B1, d1, e1⟩ := Kd.R_slice HO1.out; subst e1; obtain ⟨B2, d2, e2⟩ := Kd.R_slice HO2.out; subst e2; have hcr0 := cz0_ BKr; have hcr1 := cz1_ BKr; have hcr2 := cz2_ BKr; have hfr0 := fz_ BKr 0; have hfr1 := fz_ BKr 1; have hfr2 := fz_ BKr 2))
 refine bodyPost_ret (results_ct rfl _ _ gr 35 #[.slice B0 r1.length d0, .slice B1 r2.length d1, .slice B2 r3.length d2] (0, 0) _ rfl (by (with_reducible repeat (first | apply lN_ | apply lD_ | apply lA_)); refine blk_put (cs := #[.slice B0 r1.length d0, .slice B1 r2.length d1, .slice none 0 0]) ?_ 2 _ rfl; (with_reducible repeat (first | apply lN_ | apply lD_ | apply lA_)); refine blk_put (cs := #[.slice B0 r1.length d0, .slice none 0 0, .slice none 0 0]) ?_ 1 _ rfl; (with_reducible repeat (first | apply lN_ | apply lD_ | apply lA_)); refine blk_put (cs := #[.slice none 0 0, .slice none 0 0, .slice none 0 0]) ?_ 0 _ rfl; (with_reducible repeat (first | apply lN_ | apply lD_ | apply lA_)); exact BKr.out) Try.underlying35 rfl (by kernel_rfl)) rfl ?_
 exact ⟨_, _, _, by first | rfl | (simp; done), by (with_reducible repeat (first | apply rA_ | apply rN_ | apply rD_)); exact Kd.R_mono (fr_ (fr_ (fr_ (ft_ HO0 BKr) 0 (.slice B0 r1.length d0)) 1 (.slice B1 r2.length d1)) 2 (.slice B2 r3.length d2)) (fun _ _ => trivial), by (with_reducible repeat (first | apply rA_ | apply rN_ | apply rD_)); exact Kd.R_mono (fr_ (fr_ (fr_ (ft_ HO1 BKr) 0 (.slice B0 r1.length d0)) 1 (.slice B1 r2.length d1)) 2 (.slice B2 r3.length d2)) (fun _ hk => hk.1), by (with_reducible repeat (first | apply rA_ | apply rN_ | apply rD_)); exact Kd.R_mono (fr_ (fr_ (fr_ (ft_ HO2 BKr) 0 (.slice B0 r1.length d0)) 1 (.slice B1 r2.length d1)) 2 (.slice B2 r3.length d2)) (fun _ hk => hk.1), bb1_ HB GEr⟩

end Go.Proofs.Ytmmpnigbfiebbaa.PA
