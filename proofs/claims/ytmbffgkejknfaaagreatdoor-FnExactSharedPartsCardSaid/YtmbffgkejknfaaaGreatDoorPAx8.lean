-- Written by a program of this session (wip/tools/myprint.py). Not trusted: Lean checks it.
import Derived.Test.YtmbffgkejknfaaaGreatDoorPAx0
import Derived.Test.YtmbffgkejknfaaaGreatDoorPAx6
namespace Go.Proofs.YtmbffgkejknfaaaGreatDoor.PA
open Go.RowKit Go.Proofs.YtmbffgkejknfaaaGreatDoorW.PrintWords Go.Proofs.YtmbffgkejknfaaaGreatDoorW.PrintLast Go.Proofs.YtmbffgkejknfaaaGreatDoorW.PrintMore
attribute [local go_sem] max2_int min2_int max_two min_two max_three min_three max_four min_four   -- for this text's walks alone
set_option linter.unusedVariables false
set_option linter.unusedSimpArgs false

/-! ### spec_shParse: function 119 -/
mutual
def spec_shParse.j0 : Nat → ByteArray → Bool → Option (Int × Int × Int × Int × Int × Bool × Bool)
 | 0, _, _ => none
 | k + 1, x0, x20 => if x20 = true then (some (0, 0, 0, 0, 0, false, false)) else (spec_shParse.l0 k x0 ([] : List Int) 0)
def spec_shParse.l0 : Nat → ByteArray → List Int → Int → Option (Int × Int × Int × Int × Int × Bool × Bool)
 | 0, _, _, _ => none
 | k + 1, x0, x4, x5 => if x5 < 5 then (if 0 ≤ x5 then (if x5 < (x0.size : Int) then (if x4.length < 17592186044416 then (spec_shParse.l0 k x0 (x4 ++ [wrap64 ((wrap64 (bt x0 x5)) - 48)]) (wrap64 (x5 + 1))) else (none)) else (none)) else (none)) else (if 0 < (x4.length : Int) then (if 1 < (x4.length : Int) then (if 2 < (x4.length : Int) then (if 3 < (x4.length : Int) then (if 4 < (x4.length : Int) then ((spec_shGood.f k (rd x4 0) (rd x4 1) (rd x4 2) (rd x4 3) (rd x4 4) ((x0.size : Int) == 6)).bind fun t158 => (if t158 = true then (some (rd x4 0, rd x4 1, rd x4 2, rd x4 3, rd x4 4, ((x0.size : Int) == 6), true)) else (some (0, 0, 0, 0, 0, false, false)))) else (none)) else (none)) else (none)) else (none)) else (none))
end
def spec_shParse.f (k : Nat) (a0 : ByteArray) : Option (Int × Int × Int × Int × Int × Bool × Bool) := (spec_l1In.f (a0.size : Int) 5 6).bind fun t148 => (if t148 = true then (if (a0.size : Int) = 6 then (if 5 < (a0.size : Int) then (spec_shParse.j0 k a0 ((bt a0 5) != 115)) else (none)) else (spec_shParse.j0 k a0 false)) else (spec_shParse.j0 k a0 true))
theorem spec_shParse.mono_l : ∀ k, (∀ y0 y1, LeO (spec_shParse.j0 k y0 y1) (spec_shParse.j0 (k + 1) y0 y1)) ∧ (∀ y0 y1 y2, LeO (spec_shParse.l0 k y0 y1 y2) (spec_shParse.l0 (k + 1) y0 y1 y2))
 | 0 => ⟨fun _ _ r h => by simp [spec_shParse.j0] at h, fun _ _ _ r h => by simp [spec_shParse.l0] at h⟩
 | k + 1 => by
  obtain ⟨ih0, ih1⟩ := spec_shParse.mono_l k
  refine ⟨?_, ?_⟩
  ·intro y0 y1
   unfold spec_shParse.j0
   repeat' first
   | (with_reducible exact ih0 _ _)
   | (with_reducible exact ih1 _ _ _)
   | (with_reducible exact spec_shGood.mono _ _ _ _ _ _ _)
   | (with_reducible exact LeO.refl _)
   | (with_reducible exact LeO.none _)
   | (with_reducible refine LeO.ite ?_ ?_)
   | (with_reducible refine LeO.bind ?_ (fun _ => ?_))
   | exact ih0 _ _
   | exact ih1 _ _ _
   | exact LeO.none _
   | refine LeO.ite ?_ ?_
   | refine LeO.bind ?_ (fun _ => ?_)
  ·intro y0 y1 y2
   unfold spec_shParse.l0
   repeat' first
   | (with_reducible exact ih0 _ _)
   | (with_reducible exact ih1 _ _ _)
   | (with_reducible exact spec_shGood.mono _ _ _ _ _ _ _)
   | (with_reducible exact LeO.refl _)
   | (with_reducible exact LeO.none _)
   | (with_reducible refine LeO.ite ?_ ?_)
   | (with_reducible refine LeO.bind ?_ (fun _ => ?_))
   | exact ih0 _ _
   | exact ih1 _ _ _
   | exact LeO.none _
   | refine LeO.ite ?_ ?_
   | refine LeO.bind ?_ (fun _ => ?_)
theorem spec_shParse.mono : ∀ a0 k, LeO (spec_shParse.f k a0) (spec_shParse.f (k + 1) a0) := by
 intro a0 k
 obtain ⟨ih0, ih1⟩ := spec_shParse.mono_l k
 unfold spec_shParse.f
 repeat' first
   | (with_reducible exact ih0 _ _)
   | (with_reducible exact ih1 _ _ _)
   | (with_reducible exact spec_shGood.mono _ _ _ _ _ _ _)
   | (with_reducible exact LeO.refl _)
   | (with_reducible exact LeO.none _)
   | (with_reducible refine LeO.ite ?_ ?_)
   | (with_reducible refine LeO.bind ?_ (fun _ => ?_))
   | exact ih0 _ _
   | exact ih1 _ _ _
   | exact LeO.none _
   | refine LeO.ite ?_ ?_
   | refine LeO.bind ?_ (fun _ => ?_)
def spec_shParse.T8 : Bool × List (List Nat × List Nat) := (true, [([], []), ([0], [0]), ([1], [1]), ([], []), ([3], [3]), ([4], [4]), ([], []), ([6], [6]), ([7], [7]), ([], []), ([9], [9]), ([10], [10]), ([], []), ([12], [12]), ([13], [13]), ([], []), ([15], [15]), ([16], [16]), ([2, 5, 8, 11, 14, 17], [2, 5, 8, 11, 14, 17]), ([], []), ([19, 18, 0, 1, 2, 3, 4, 5, 6, 7, 8, 9, 10, 11, 12, 13, 14, 15, 16, 17, 18, 19], [18, 19])])
def spec_shParse.B8 : List Nat := [0, 1, 3, 0, 8, 24, 0, 64, 192, 0, 512, 1536, 0, 4096, 12288, 0, 32768, 98304, 262143, 0, 1048575]
theorem spec_shParse.tab8 : rtab .any (opsOf Tryz.f119 8) = spec_shParse.T8 := by kernel_rfl
theorem spec_shParse.bits8 : waitsOk spec_shParse.T8.2 spec_shParse.B8 = true := by kernel_rfl
set_option maxHeartbeats 8000000 in
set_option maxRecDepth 100000 in
theorem spec_shParse.calls (k : Nat) (a0 : ByteArray) (r1 : Int) (r2 : Int) (r3 : Int) (r4 : Int) (r5 : Int) (r6 : Bool) (r7 : Bool) (w : World) (h : spec_shParse.f k a0 = some (r1, r2, r3, r4, r5, r6, r7)) :
  Calls Tryz.prog 119 #[.string a0] w fun e w' => e = .returned (.tuple #[.agg #[.int .i64 r1, .int .i64 r2, .int .i64 r3, .int .i64 r4, .int .i64 r5, .bool r6], .bool r7]) ∧ Below w.heap.size w w' := by
 have hu37 := Tryz.underlying37
 have HB := Aside0.mk (Below.refl w.heap.size w)
 have H : ((spec_l1In.f (a0.size : Int) 5 6).bind fun t148 => (if t148 = true then (if (a0.size : Int) = 6 then (if 5 < (a0.size : Int) then (spec_shParse.j0 k a0 ((bt a0 5) != 115)) else (none)) else (spec_shParse.j0 k a0 false)) else (spec_shParse.j0 k a0 true))) = some (r1, r2, r3, r4, r5, r6, r7) := h
 clear h
 have HC2 := Aside0.mk H
 clear H
 go_enter Tryz.func119, Tryz.ntmps119
 go_upto_region 1 with (first | ((with_reducible refine gate_dst (N := 2) rfl ?_); (try (refine gate_guard (by rfl) ?_; dsimp only)); refine box_event ?hg (N := 2) ?hd (cs := #[.int .i64 0, .int .i64 0, .int .i64 0, .int .i64 0, .int .i64 0, .bool false]) (t := 37) ?hr ?_; (case hd => rfl); (case hg => rfl); (case hr => first | (go_simp; done) | (go_simp; rfl)); intro gb147 hg w3 hbox hb; have n0_ := Aside0.mk (bt_ HB hb); have n1_ := Aside0.mk (hbox); have n2_ := gz_ hg HB; have n3_ := gz_ hg HB; clear HB; have HB := n0_; have BK147 := n1_; have GW147 := n2_; have GE147 := n3_; clear n0_ n1_ n2_ n3_; clear hb hbox hg))
 (try simp only [Act.put, sA_, sB_, sC_])
 go_cut [20] (fun v20 wc => ∃ (kq : Nat) (x20_1 : Bool), v20 = .bool x20_1 ∧ Aside0 (spec_shParse.j0 kq a0 x20_1 = some (r1, r2, r3, r4, r5, r6, r7)) ∧ Aside0 (kq ≤ k) ∧ Aside0 (wc.heap[gb147]? = some (.cells #[.int .i64 0, .int .i64 0, .int .i64 0, .int .i64 0, .int .i64 0, .bool false] 37 (0, 0))) ∧ Aside0 (Below w.heap.size w wc))
 case first =>
  have H := HC2.out
  clear HC2
  replace H := Option.bind_eq_some_iff.mp H
  obtain ⟨t148, A40, H⟩ := H
  try dsimp only at H
  have A4 := Aside0.mk A40
  clear A40
  by_cases c5 : t148 = true
  ·subst c5
   have H1 : (if (a0.size : Int) = 6 then (if 5 < (a0.size : Int) then (spec_shParse.j0 k a0 ((bt a0 5) != 115)) else (none)) else (spec_shParse.j0 k a0 false)) = some (r1, r2, r3, r4, r5, r6, r7) := by rw [if_pos rfl] at H; exact H
   clear H
   have H := H1
   clear H1
   by_cases c6 : (a0.size : Int) = 6
   ·rw [if_pos c6] at H
    have c6b0 : ((a0.size : Int) == 6) = true := beq_iff_eq.mpr c6
    have c6b1 : ((a0.size : Int) != 6) = false := bne_eq_false_iff_eq.mpr c6
    clear c6
    (first | rw [c6b0] | (simp only [i64_w, i32_w]; rw [c6b0]) | skip)
    by_cases c7 : 5 < (a0.size : Int)
    ·rw [if_pos c7] at H
     have c7b0 : decide (5 < (a0.size : Int)) = true := decide_eq_true c7
     have c7b1 : decide (5 < a0.size) = true := decide_eq_true (by omega)
     clear c7
     have H' := Aside0.mk H
     clear H
     go_wp2_with (first | ((with_reducible refine gate_callee (f := 58) rfl ?_); refine goesL_ (some 9) rfl rfl Tryz.func58 (by kernel_rfl) rfl #[.int .i64 (a0.size : Int), .int .i64 5, .int .i64 6] rfl args_ ?_; (with_reducible refine (spec_l1In.calls (a0.size : Int) 5 6 true _ A4.out).mono ?_); rintro e w' ⟨rfl, ⟨nd, rfl⟩⟩; refine ⟨_, rfl, ?_⟩; have p8 : 0 ≤ (5 : Int) := (by omega); have q8 : 5 < a0.size := (by have : (5 : Int) < (a0.size : Int) := of_decide_eq_true as_; omega); have hx8 : ∀ h : 5 < a0.size, ((a0[5]'h).toNat : Int) = bt a0 5 := bt_at a0 5; clear p8; have qi8 : (5 < (a0.size : Int)) = True := eq_true (of_decide_eq_true as_); replace q8 := eq_true q8))
     go_meet
     case rel => exact ⟨_, (((bt a0 5) != 115)), (by first | rfl | (simp; done) | (simp [*]; done)), H', ⟨by first | omega | exact Nat.le_refl _⟩, ⟨by (with_reducible repeat (first | apply lN_ | apply lD_ | apply lA_)); exact BK147.out⟩, ⟨bb1_ HB GE147⟩⟩
    ·rw [if_neg c7] at H
     exact absurd H (by simp)
   ·rw [if_neg c6] at H
    have c6b0 : ((a0.size : Int) == 6) = false := beq_eq_false_iff_ne.mpr c6
    have c6b1 : ((a0.size : Int) != 6) = true := bne_iff_ne.mpr c6
    (first | rw [c6b0] | (simp only [i64_w, i32_w]; rw [c6b0]) | skip)
    have H' := Aside0.mk H
    clear H
    go_wp2_with (first | ((with_reducible refine gate_callee (f := 58) rfl ?_); refine goesL_ (some 9) rfl rfl Tryz.func58 (by kernel_rfl) rfl #[.int .i64 (a0.size : Int), .int .i64 5, .int .i64 6] rfl args_ ?_; (with_reducible refine (spec_l1In.calls (a0.size : Int) 5 6 true _ A4.out).mono ?_); rintro e w' ⟨rfl, ⟨nd, rfl⟩⟩; refine ⟨_, rfl, ?_⟩))
    go_meet
    case rel => exact ⟨_, (false), (by first | rfl | (simp; done) | (simp [*]; done)), H', ⟨by first | omega | exact Nat.le_refl _⟩, ⟨by (with_reducible repeat (first | apply lN_ | apply lD_ | apply lA_)); exact BK147.out⟩, ⟨bb1_ HB GE147⟩⟩
  ·replace c5 := Bool.eq_false_iff.mpr c5
   subst c5
   have H1 : (spec_shParse.j0 k a0 true) = some (r1, r2, r3, r4, r5, r6, r7) := by rw [if_neg (show ¬ (false = true) by decide)] at H; exact H
   clear H
   have H := H1
   clear H1
   have H' := Aside0.mk H
   clear H
   go_wp2_with (first | ((with_reducible refine gate_callee (f := 58) rfl ?_); refine goesL_ (some 9) rfl rfl Tryz.func58 (by kernel_rfl) rfl #[.int .i64 (a0.size : Int), .int .i64 5, .int .i64 6] rfl args_ ?_; (with_reducible refine (spec_l1In.calls (a0.size : Int) 5 6 false _ A4.out).mono ?_); rintro e w' ⟨rfl, ⟨nd, rfl⟩⟩; refine ⟨_, rfl, ?_⟩))
   go_meet
   case rel => exact ⟨_, (true), (by first | rfl | (simp; done) | (simp [*]; done)), H', ⟨by first | omega | exact Nat.le_refl _⟩, ⟨by (with_reducible repeat (first | apply lN_ | apply lD_ | apply lA_)); exact BK147.out⟩, ⟨bb1_ HB GE147⟩⟩
 case rest =>
  clear HC2
  try clear c1
  try clear p2
  try clear c5
  try clear c6
  try clear c6b0
  try clear c6b1
  try clear c7
  try clear c7b0
  try clear c7b1
  try clear p8
  try clear q8
  try clear hx8
  try clear qi8
  try clear p8
  try clear q8
  obtain ⟨kq, x20_1, rfl, HA, HJ1, BK147, HB⟩ := hcut
  cases kq with
  | zero => exact absurd HA.out (by simp [spec_shParse.j0])
  | succ kj1 =>
   have H := HA.out
   clear HA
   simp only [spec_shParse.j0] at H
   by_cases c9 : x20_1 = true
   ·subst c9
    have H1 : (some (0, 0, 0, 0, 0, false, false)) = some (r1, r2, r3, r4, r5, r6, r7) := by rw [if_pos rfl] at H; exact H
    clear H
    have H := H1
    clear H1
    simp only [Option.some.injEq, Prod.mk.injEq] at H
    obtain ⟨rfl, rfl, rfl, rfl, rfl, rfl, rfl⟩ := H
    have hcz10_0 := cz0_ BK147
    have hcz10_1 := cz1_ BK147
    have hcz10_2 := cz2_ BK147
    have hcz10_3 := cz3_ BK147
    have hcz10_4 := cz4_ BK147
    have hcz10_5 := cz5_ BK147
    have hfz10_0 := fz_ BK147 0
    have hfz10_1 := fz_ BK147 1
    have hfz10_2 := fz_ BK147 2
    have hfz10_3 := fz_ BK147 3
    have hfz10_4 := fz_ BK147 4
    have hfz10_5 := fz_ BK147 5
    go_wp2
    refine bodyPost_ret (results_ct rfl _ _ gb147 37 #[.int .i64 0, .int .i64 0, .int .i64 0, .int .i64 0, .int .i64 0, .bool false] (0, 0) _ rfl (by (with_reducible repeat (first | apply lN_ | apply lD_ | apply lA_)); refine blk_put (cs := #[.int .i64 0, .int .i64 0, .int .i64 0, .int .i64 0, .int .i64 0, .bool false]) ?_ 5 _ rfl; (with_reducible repeat (first | apply lN_ | apply lD_ | apply lA_)); refine blk_put (cs := #[.int .i64 0, .int .i64 0, .int .i64 0, .int .i64 0, .int .i64 0, .bool false]) ?_ 4 _ rfl; (with_reducible repeat (first | apply lN_ | apply lD_ | apply lA_)); refine blk_put (cs := #[.int .i64 0, .int .i64 0, .int .i64 0, .int .i64 0, .int .i64 0, .bool false]) ?_ 3 _ rfl; (with_reducible repeat (first | apply lN_ | apply lD_ | apply lA_)); refine blk_put (cs := #[.int .i64 0, .int .i64 0, .int .i64 0, .int .i64 0, .int .i64 0, .bool false]) ?_ 2 _ rfl; (with_reducible repeat (first | apply lN_ | apply lD_ | apply lA_)); refine blk_put (cs := #[.int .i64 0, .int .i64 0, .int .i64 0, .int .i64 0, .int .i64 0, .bool false]) ?_ 1 _ rfl; (with_reducible repeat (first | apply lN_ | apply lD_ | apply lA_)); refine blk_put (cs := #[.int .i64 0, .int .i64 0, .int .i64 0, .int .i64 0, .int .i64 0, .bool false]) ?_ 0 _ rfl; (with_reducible repeat (first | apply lN_ | apply lD_ | apply lA_)); exact BK147.out) Tryz.underlying37 rfl (by kernel_rfl)) rfl ?_
    exact ⟨by first | rfl | (simp [errW_none, errW_some] <;> rfl) | (simp [*, errW_none, errW_some] <;> rfl), bb1_ HB GE147⟩
   ·replace c9 := Bool.eq_false_iff.mpr c9
    subst c9
    have H1 : (spec_shParse.l0 kj1 a0 ([] : List Int) 0) = some (r1, r2, r3, r4, r5, r6, r7) := by rw [if_neg (show ¬ (false = true) by decide)] at H; exact H
    clear H
    have H := H1
    clear H1
    have H' := Aside0.mk H
    clear H
    go_wp2
    go_loopg [4, 5] kj1 (fun kq v4 v5 w' => ∃ (x4_2 : List Int) (x5_2 : Int), v5 = .int .i64 x5_2 ∧ Aside0 (spec_shParse.l0 kq a0 x4_2 x5_2 = some (r1, r2, r3, r4, r5, r6, r7)) ∧ Aside0 (kq ≤ kj1) ∧ Aside0 (Kd.R (Kd.int .i64) 3 w' w.heap.size (fun _ => True) v4 x4_2) ∧ Aside0 (w'.heap[gb147]? = some (.cells #[.int .i64 0, .int .i64 0, .int .i64 0, .int .i64 0, .int .i64 0, .bool false] 37 (0, 0))) ∧ Aside0 (Below w.heap.size w w'))
    case atStart => exact ⟨(([] : List Int)), (0), (by first | rfl | (simp; done) | (simp [*]; done)), H', ⟨Nat.le_refl _⟩, ⟨by first | exact Kd.R_nil _ _ _ _ _ | exact Kd.N_nil _ _ _ _ _ | exact Kd.V_nil _ _ _ _ _ | exact Kd.Q_nil _ _ _ _ _ | exact Kd.S_nil _ _ _ _ _⟩, ⟨by (with_reducible repeat (first | apply lN_ | apply lD_ | apply lA_)); exact BK147.out⟩, ⟨bb1_ HB GE147⟩⟩
    case round =>
     clear H'
     try clear c1
     try clear p2
     try clear c5
     try clear c6
     try clear c6b0
     try clear c6b1
     try clear c7
     try clear c7b0
     try clear c7b1
     try clear p8
     try clear q8
     try clear hx8
     try clear qi8
     try clear c9
     try clear hcz10_0
     try clear hcz10_1
     try clear hcz10_2
     try clear hcz10_3
     try clear hcz10_4
     try clear hcz10_5
     try clear hfz10_0
     try clear hfz10_1
     try clear hfz10_2
     try clear hfz10_3
     try clear hfz10_4
     try clear hfz10_5
     try clear p2
     try clear p8
     try clear q8
     obtain ⟨x4_2, x5_2, rfl, HA, HK2, HO_4, BK147, HB⟩ := hrel
     cases gk with
     | zero => exact absurd HA.out (by simp [spec_shParse.l0])
     | succ k2 =>
      have H := HA.out
      clear HA
      simp only [spec_shParse.l0] at H
      by_cases c11 : x5_2 < 5
      ·rw [if_pos c11] at H
       have c11b0 : decide (x5_2 < 5) = true := decide_eq_true c11
       clear c11
       by_cases c12 : 0 ≤ x5_2
       ·rw [if_pos c12] at H
        have c12b0 : decide (0 ≤ x5_2) = true := decide_eq_true c12
        clear c12
        by_cases c13 : x5_2 < (a0.size : Int)
        ·rw [if_pos c13] at H
         have c13b0 : decide (x5_2 < (a0.size : Int)) = true := decide_eq_true c13
         clear c13
         by_cases c15 : x4_2.length < 17592186044416
         ·rw [if_pos c15] at H
          have LMc15 := Aside0.mk c15
          clear c15
          obtain ⟨y149, hy149⟩ : ∃ y_ : List Int, y_ = (x4_2 ++ [wrap64 ((wrap64 (bt a0 x5_2)) - 48)]) := ⟨_, rfl⟩
          replace H : (spec_shParse.l0 k2 a0 y149 (wrap64 (x5_2 + 1))) = some (r1, r2, r3, r4, r5, r6, r7) := by first | (rw [hy149]; with_reducible exact H) | (have H2_ := (Option.bind_some _ _).symm.trans H; rw [hy149]; with_reducible exact H2_) | (have H2_ := (Option.bind_some _ _).symm.trans H; with_reducible exact H2_) | with_reducible exact H | (rw [hy149]; exact H) | exact H
          have Ny149 := Aside0.mk hy149
          clear hy149
          have H' := Aside0.mk H
          clear H
          have p14 : 0 ≤ (x5_2 : Int) := of_decide_eq_true as_
          have q14 : x5_2 < (a0.size : Int) := of_decide_eq_true as_
          have hx14 := bt_at a0 x5_2
          replace p14 := eq_true p14
          replace q14 := eq_true q14
          go_wp2_with (first | ((with_reducible refine gate_builtin (b := .append) (xs := #[.tmp 26, .tmp 32]) rfl ?_); (try (refine gate_guard (by rfl) ?_; dsimp only)); at_builtin; refine Kd.R_append (Kd.int .i64) (w0 := w) w.heap.size rfl (.tmp 26) (.tmp 32) 81 3 (.int .i64 0) 8 rfl Tryz.underlying81 info3 rfl (by decide) (by omega) u4 x4_2 (wrap64 ((wrap64 (bt a0 x5_2)) - 48)) [.int .i64 (wrap64 ((wrap64 (bt a0 x5_2)) - 48))] (fun _ => True) (fun _ => False) rfl rfl ?aP (fun _ hk => hk.elim) ?aF ?aO ?aB ?aS ?aL ?_; (case aP => exact rfl); (case aB => exact (bb1_ HB GE147)); (case aF => exact (fun _ _ => trivial)); (case aO => exact (ra_ HO_4)); (case aS => exact (below_size (bb1_ HB GE147))); (case aL => have := LMc15.out; omega); intro v150 w16 ho hb hg hat; rw [← Ny149.out] at ho; have n0_ := Aside0.mk (blk_grown (g := gb147) (o := .cells #[.int .i64 0, .int .i64 0, .int .i64 0, .int .i64 0, .int .i64 0, .bool false] 37 (0, 0)) (la_ BK147) hg (Kd.R_ne HO_4.out BK147.out (by decide))); have n1_ := Aside0.mk (hb); have n2_ := Aside0.mk (ho); clear BK147; clear HB; clear HO_4; have BK147 := n0_; have HB := n1_; have HO151 := n2_; clear n0_ n1_ n2_; clear ho hb hg hat))
          go_roundg k2
          case measure => have := HJ1.out; have := HK2.out; omega
          case rel => exact ⟨(y149), (wrap64 (x5_2 + 1)), (by first | rfl | (simp; done) | (simp [*]; done)), H', ⟨by have := HJ1.out; have := HK2.out; omega⟩, ⟨by (with_reducible repeat (first | apply rA_ | apply rN_ | apply rD_)); exact HO151.out⟩, ⟨by (with_reducible repeat (first | apply lN_ | apply lD_ | apply lA_)); exact BK147.out⟩, ⟨bb1_ HB GE147⟩⟩
         ·rw [if_neg c15] at H
          exact absurd H (by simp)
        ·rw [if_neg c13] at H
         exact absurd H (by simp)
       ·rw [if_neg c12] at H
        exact absurd H (by simp)
      ·rw [if_neg c11] at H
       have c11b0 : decide (x5_2 < 5) = false := decide_eq_false c11
       clear c11
       by_cases c17 : 0 < (x4_2.length : Int)
       ·rw [if_pos c17] at H
        have c17b0 : decide (0 < (x4_2.length : Int)) = true := decide_eq_true c17
        have c17b1 : decide (0 < x4_2.length) = true := decide_eq_true (by omega)
        clear c17
        by_cases c18 : 1 < (x4_2.length : Int)
        ·rw [if_pos c18] at H
         have c18b0 : decide (1 < (x4_2.length : Int)) = true := decide_eq_true c18
         have c18b1 : decide (1 < x4_2.length) = true := decide_eq_true (by omega)
         clear c18
         by_cases c19 : 2 < (x4_2.length : Int)
         ·rw [if_pos c19] at H
          have c19b0 : decide (2 < (x4_2.length : Int)) = true := decide_eq_true c19
          have c19b1 : decide (2 < x4_2.length) = true := decide_eq_true (by omega)
          clear c19
          by_cases c20 : 3 < (x4_2.length : Int)
          ·rw [if_pos c20] at H
           have c20b0 : decide (3 < (x4_2.length : Int)) = true := decide_eq_true c20
           have c20b1 : decide (3 < x4_2.length) = true := decide_eq_true (by omega)
           clear c20
           by_cases c21 : 4 < (x4_2.length : Int)
           ·rw [if_pos c21] at H
            have c21b0 : decide (4 < (x4_2.length : Int)) = true := decide_eq_true c21
            have c21b1 : decide (4 < x4_2.length) = true := decide_eq_true (by omega)
            clear c21
            replace H := Option.bind_eq_some_iff.mp H
            obtain ⟨t158, A220, H⟩ := H
            try dsimp only at H
            have A22 := Aside0.mk A220
            clear A220
            by_cases c23 : t158 = true
            ·subst c23
             have H1 : (some (rd x4_2 0, rd x4_2 1, rd x4_2 2, rd x4_2 3, rd x4_2 4, ((a0.size : Int) == 6), true)) = some (r1, r2, r3, r4, r5, r6, r7) := by rw [if_pos rfl] at H; exact H
             clear H
             have H := H1
             clear H1
             simp only [Option.some.injEq, Prod.mk.injEq] at H
             obtain ⟨rfl, rfl, rfl, rfl, rfl, rfl, rfl⟩ := H
             try go_wp2
             have n0_ := Aside0.mk (Kd.R_drew HO_4.out)
             have n1_ := Aside0.mk (blk_drew BK147.out)
             have n2_ := Aside0.mk (below_drew1 HB.out)
             clear HO_4
             clear BK147
             clear HB
             have HO_4 := n0_
             have BK147 := n1_
             have HB := n2_
             clear n0_ n1_ n2_
             obtain ⟨Ao25, co25, eo25⟩ := Kd.R_slice HO_4.out
             (first | subst eo25 | (injection eo25 with f1_ f2_ f3_; have f4_ := f1_.symm; have f5_ := f3_.symm; clear f1_ f2_ f3_; subst f4_; subst f5_))
             have p152 : 0 ≤ (0 : Int) := (by omega)
             have q152 : 0 < (x4_2.length : Int) := of_decide_eq_true as_
             obtain ⟨ad152, e152, hx152_0⟩ := Kd.at_int (Kd.R_reads' HO_4.out).2.2 0 p152 q152
             cases e152
             have qi152 : (0 < x4_2.length) = True := eq_true (by omega)
             (try rw [show ((0 : Int)).toNat = 0 from rfl] at hx152_0)
             (try rw [Addr.add_zero'] at hx152_0)
             replace p152 := eq_true p152
             replace q152 := eq_true q152
             have p153 : 0 ≤ (1 : Int) := (by omega)
             have q153 : 1 < (x4_2.length : Int) := of_decide_eq_true as_
             obtain ⟨ad153, e153, hx153_0⟩ := Kd.at_int (Kd.R_reads' HO_4.out).2.2 1 p153 q153
             obtain rfl : ad152 = ad153 := (by injection e153)
             (try simp only [show (1 : Int).toNat = 1 from rfl, Nat.reduceMul, Nat.reduceEqDiff, Go.Addr.add, ↓reduceIte] at hx153_0)
             have qi153 : (1 < x4_2.length) = True := eq_true (by omega)
             (try rw [show ((1 : Int)).toNat = 1 from rfl] at hx153_0)
             replace p153 := eq_true p153
             replace q153 := eq_true q153
             have p154 : 0 ≤ (2 : Int) := (by omega)
             have q154 : 2 < (x4_2.length : Int) := of_decide_eq_true as_
             obtain ⟨ad154, e154, hx154_0⟩ := Kd.at_int (Kd.R_reads' HO_4.out).2.2 2 p154 q154
             obtain rfl : ad152 = ad154 := (by injection e154)
             (try simp only [show (2 : Int).toNat = 2 from rfl, Nat.reduceMul, Nat.reduceEqDiff, Go.Addr.add, ↓reduceIte] at hx154_0)
             have qi154 : (2 < x4_2.length) = True := eq_true (by omega)
             (try rw [show ((2 : Int)).toNat = 2 from rfl] at hx154_0)
             replace p154 := eq_true p154
             replace q154 := eq_true q154
             have p155 : 0 ≤ (3 : Int) := (by omega)
             have q155 : 3 < (x4_2.length : Int) := of_decide_eq_true as_
             obtain ⟨ad155, e155, hx155_0⟩ := Kd.at_int (Kd.R_reads' HO_4.out).2.2 3 p155 q155
             obtain rfl : ad152 = ad155 := (by injection e155)
             (try simp only [show (3 : Int).toNat = 3 from rfl, Nat.reduceMul, Nat.reduceEqDiff, Go.Addr.add, ↓reduceIte] at hx155_0)
             have qi155 : (3 < x4_2.length) = True := eq_true (by omega)
             (try rw [show ((3 : Int)).toNat = 3 from rfl] at hx155_0)
             replace p155 := eq_true p155
             replace q155 := eq_true q155
             have p156 : 0 ≤ (4 : Int) := (by omega)
             have q156 : 4 < (x4_2.length : Int) := of_decide_eq_true as_
             obtain ⟨ad156, e156, hx156_0⟩ := Kd.at_int (Kd.R_reads' HO_4.out).2.2 4 p156 q156
             obtain rfl : ad152 = ad156 := (by injection e156)
             (try simp only [show (4 : Int).toNat = 4 from rfl, Nat.reduceMul, Nat.reduceEqDiff, Go.Addr.add, ↓reduceIte] at hx156_0)
             have qi156 : (4 < x4_2.length) = True := eq_true (by omega)
             (try rw [show ((4 : Int)).toNat = 4 from rfl] at hx156_0)
             replace p156 := eq_true p156
             replace q156 := eq_true q156
             refine start_ (n := 21) (S := fun w' => w'.cell? ad152 = some (.int .i64 (rd x4_2 0)) ∧ w'.cell? ⟨ad152.block, ad152.off + 1, none⟩ = some (.int .i64 (rd x4_2 1)) ∧ w'.cell? ⟨ad152.block, ad152.off + 2, none⟩ = some (.int .i64 (rd x4_2 2)) ∧ w'.cell? ⟨ad152.block, ad152.off + 3, none⟩ = some (.int .i64 (rd x4_2 3)) ∧ w'.cell? ⟨ad152.block, ad152.off + 4, none⟩ = some (.int .i64 (rd x4_2 4))) (ds := []) #[false, false, false, false, false, false, false, false, false, false, false, false, false, false, false, false, false, false, false, false, false] (by kernel_rfl) rfl rfl ⟨hx152_0, hx153_0, hx154_0, hx155_0, hx156_0⟩ (fun hHeld => ?_); refine with_tabW spec_shParse.tab8 spec_shParse.bits8 (fun HT_ HW_ => ?_)
             generalize wr.drew = w24 at HO_4 BK147 HB hx152_0 hx153_0 hx154_0 hx155_0 hx156_0 hHeld ⊢
             refine pu2_ (i := 0) (N := some 34) #[true, false, false, false, false, false, false, false, false, false, false, false, false, false, false, false, false, false, false, false, false] rfl rfl ?_
             refine pu2_ (i := 1) (N := some 35) #[true, true, false, false, false, false, false, false, false, false, false, false, false, false, false, false, false, false, false, false, false] rfl rfl ?_
             refine pu2_ (i := 3) (N := some 37) #[true, true, false, true, false, false, false, false, false, false, false, false, false, false, false, false, false, false, false, false, false] rfl rfl ?_
             refine pu2_ (i := 4) (N := some 38) #[true, true, false, true, true, false, false, false, false, false, false, false, false, false, false, false, false, false, false, false, false] rfl rfl ?_
             refine pu2_ (i := 6) (N := some 40) #[true, true, false, true, true, false, true, false, false, false, false, false, false, false, false, false, false, false, false, false, false] rfl rfl ?_
             refine pu2_ (i := 7) (N := some 41) #[true, true, false, true, true, false, true, true, false, false, false, false, false, false, false, false, false, false, false, false, false] rfl rfl ?_
             refine pu2_ (i := 9) (N := some 43) #[true, true, false, true, true, false, true, true, false, true, false, false, false, false, false, false, false, false, false, false, false] rfl rfl ?_
             refine pu2_ (i := 10) (N := some 44) #[true, true, false, true, true, false, true, true, false, true, true, false, false, false, false, false, false, false, false, false, false] rfl rfl ?_
             refine pu2_ (i := 12) (N := some 46) #[true, true, false, true, true, false, true, true, false, true, true, false, true, false, false, false, false, false, false, false, false] rfl rfl ?_
             refine pu2_ (i := 13) (N := some 47) #[true, true, false, true, true, false, true, true, false, true, true, false, true, true, false, false, false, false, false, false, false] rfl rfl ?_
             refine pu2_ (i := 15) (N := some 49) #[true, true, false, true, true, false, true, true, false, true, true, false, true, true, false, true, false, false, false, false, false] rfl rfl ?_
             refine pu2_ (i := 16) (N := some 50) #[true, true, false, true, true, false, true, true, false, true, true, false, true, true, false, true, true, false, false, false, false] rfl rfl ?_
             refine pu2_ (i := 17) (N := some 51) #[true, true, false, true, true, false, true, true, false, true, true, false, true, true, false, true, true, true, false, false, false] rfl rfl ?_
             refine tk2_ (i := 2) (N := some 36) #[true, true, true, true, true, false, true, true, false, true, true, false, true, true, false, true, true, true, false, false, false] rfl rfl hHeld ?_
             refine tk2_ (i := 5) (N := some 39) #[true, true, true, true, true, true, true, true, false, true, true, false, true, true, false, true, true, true, false, false, false] rfl rfl hHeld ?_
             refine tk2_ (i := 8) (N := some 42) #[true, true, true, true, true, true, true, true, true, true, true, false, true, true, false, true, true, true, false, false, false] rfl rfl hHeld ?_
             refine tk2_ (i := 11) (N := some 45) #[true, true, true, true, true, true, true, true, true, true, true, true, true, true, false, true, true, true, false, false, false] rfl rfl hHeld ?_
             refine tk2_ (i := 14) (N := some 48) #[true, true, true, true, true, true, true, true, true, true, true, true, true, true, true, true, true, true, false, false, false] rfl rfl hHeld ?_
             refine pu2_ (i := 18) (N := some 52) #[true, true, true, true, true, true, true, true, true, true, true, true, true, true, true, true, true, true, true, false, false] rfl rfl ?_
             refine one_ (i := 19) (N := some 6) #[true, true, true, true, true, true, true, true, true, true, true, true, true, true, true, true, true, true, true, true, false] rfl rfl (one_of HT_.out (by kernel_rfl)) (by decide) (fun K hK => ?_)
             refine box_step ?hg (N := 6) ?hd (cs := #[.int .i64 0, .int .i64 0, .int .i64 0, .int .i64 0, .int .i64 0, .bool false]) (t := 37) ?hr ?_; (case hd => rfl); (case hg => rfl); (case hr => first | (go_simp; done) | (go_simp; rfl))
             intro gb157 hg w26 hbox hb
             have HS0_ := (hb.cell (World.block_lt_of_cell? _ _ (hHeld.1))).trans (hHeld.1)
             have HS1_ := (hb.cell (World.block_lt_of_cell? _ _ (hHeld.2.1))).trans (hHeld.2.1)
             have HS2_ := (hb.cell (World.block_lt_of_cell? _ _ (hHeld.2.2.1))).trans (hHeld.2.2.1)
             have HS3_ := (hb.cell (World.block_lt_of_cell? _ _ (hHeld.2.2.2.1))).trans (hHeld.2.2.2.1)
             have HS4_ := (hb.cell (World.block_lt_of_cell? _ _ (hHeld.2.2.2.2))).trans (hHeld.2.2.2.2)
             have n0_ := Aside0.mk (Kd.R_below (ra_ HO_4) hb)
             have n1_ := Aside0.mk (lb_ BK147 hb)
             have n2_ := Aside0.mk (below_step (bb1_ HB GE147) hb)
             have n3_ := Aside0.mk (hbox)
             have n4_ := gy_ hg (bb1_ HB GE147)
             have n5_ := gy_ hg (bb1_ HB GE147)
             have n6_ := nl_ hg BK147
             have n7_ := ng_ hg BK147
             clear HO_4
             clear BK147
             clear HB
             have HO_4 := n0_
             have BK147 := n1_
             have HB := n2_
             have BK157 := n3_
             have GW157 := n4_
             have GE157 := n5_
             have NB147_157 := n6_
             have NB157_147 := n7_
             clear n0_ n1_ n2_ n3_ n4_ n5_ n6_ n7_
             clear hb hbox hg
             refine hK.out _ _ ⟨HS0_, HS1_, HS2_, HS3_, HS4_⟩ (fun hHeld => ?_)
             clear hK K
             refine nm2_ ?_
             refine one_ (i := 20) (N := none) #[true, true, true, true, true, true, true, true, true, true, true, true, true, true, true, true, true, true, true, true, true] rfl rfl (one_of HT_.out (by kernel_rfl)) (by decide) (fun K hK => ?_)
             have hs27 := cz0_ BK157
             have hfs27 := fz_ BK157 0
             have hns27_0 := NB147_157.out
             have hms27_0 := NB157_147.out
             have hs28 := cz1_ BK157
             have hfs28 := fz_ BK157 1
             have hns28_0 := NB147_157.out
             have hms28_0 := NB157_147.out
             have hs29 := cz2_ BK157
             have hfs29 := fz_ BK157 2
             have hns29_0 := NB147_157.out
             have hms29_0 := NB157_147.out
             have hs30 := cz3_ BK157
             have hfs30 := fz_ BK157 3
             have hns30_0 := NB147_157.out
             have hms30_0 := NB157_147.out
             have hs31 : w26.cell? ⟨gb157, 4, none⟩ = some (.int .i64 0) := (blk_cell BK157.out 4).trans rfl
             have hfs31 := fz_ BK157 4
             have hns31_0 := NB147_157.out
             have hms31_0 := NB157_147.out
             have hs32 : w26.cell? ⟨gb157, 5, none⟩ = some (.bool false) := (blk_cell BK157.out 5).trans rfl
             have hfs32 := fz_ BK157 5
             have hns32_0 := NB147_157.out
             have hms32_0 := NB157_147.out
             refine skip_ (w1 := ?_) (by rfl) rfl ?_ ?_
             rotate_left
             ·go_simp
              rfl
             refine hK.out _ _ ⟨((cell_far (p := ⟨gb157, _, none⟩) (by first | exact Kd.own_blk (Kd.R_ne HO_4.out BK157.out (by decide)) | (rw [add_block]; exact Kd.own_blk (Kd.R_ne HO_4.out BK157.out (by decide))) | (show (Addr.add _ _).block ≠ _; rw [add_block]; exact Kd.own_blk (Kd.R_ne HO_4.out BK157.out (by decide))) | (dsimp only; exact Kd.own_blk (Kd.R_ne HO_4.out BK157.out (by decide)))) _).trans (((cell_far (p := ⟨gb157, _, none⟩) (by first | exact Kd.own_blk (Kd.R_ne HO_4.out BK157.out (by decide)) | (rw [add_block]; exact Kd.own_blk (Kd.R_ne HO_4.out BK157.out (by decide))) | (show (Addr.add _ _).block ≠ _; rw [add_block]; exact Kd.own_blk (Kd.R_ne HO_4.out BK157.out (by decide))) | (dsimp only; exact Kd.own_blk (Kd.R_ne HO_4.out BK157.out (by decide)))) _).trans (((cell_far (p := ⟨gb157, _, none⟩) (by first | exact Kd.own_blk (Kd.R_ne HO_4.out BK157.out (by decide)) | (rw [add_block]; exact Kd.own_blk (Kd.R_ne HO_4.out BK157.out (by decide))) | (show (Addr.add _ _).block ≠ _; rw [add_block]; exact Kd.own_blk (Kd.R_ne HO_4.out BK157.out (by decide))) | (dsimp only; exact Kd.own_blk (Kd.R_ne HO_4.out BK157.out (by decide)))) _).trans (((cell_far (p := ⟨gb157, _, none⟩) (by first | exact Kd.own_blk (Kd.R_ne HO_4.out BK157.out (by decide)) | (rw [add_block]; exact Kd.own_blk (Kd.R_ne HO_4.out BK157.out (by decide))) | (show (Addr.add _ _).block ≠ _; rw [add_block]; exact Kd.own_blk (Kd.R_ne HO_4.out BK157.out (by decide))) | (dsimp only; exact Kd.own_blk (Kd.R_ne HO_4.out BK157.out (by decide)))) _).trans (((cell_far (p := ⟨gb157, _, none⟩) (by first | exact Kd.own_blk (Kd.R_ne HO_4.out BK157.out (by decide)) | (rw [add_block]; exact Kd.own_blk (Kd.R_ne HO_4.out BK157.out (by decide))) | (show (Addr.add _ _).block ≠ _; rw [add_block]; exact Kd.own_blk (Kd.R_ne HO_4.out BK157.out (by decide))) | (dsimp only; exact Kd.own_blk (Kd.R_ne HO_4.out BK157.out (by decide)))) _).trans (((cell_far (p := ⟨gb157, _, none⟩) (by first | exact Kd.own_blk (Kd.R_ne HO_4.out BK157.out (by decide)) | (rw [add_block]; exact Kd.own_blk (Kd.R_ne HO_4.out BK157.out (by decide))) | (show (Addr.add _ _).block ≠ _; rw [add_block]; exact Kd.own_blk (Kd.R_ne HO_4.out BK157.out (by decide))) | (dsimp only; exact Kd.own_blk (Kd.R_ne HO_4.out BK157.out (by decide)))) _).trans (hHeld.1)))))))))))), ((cell_far (p := ⟨gb157, _, none⟩) (by first | exact Kd.own_blk (Kd.R_ne HO_4.out BK157.out (by decide)) | (rw [add_block]; exact Kd.own_blk (Kd.R_ne HO_4.out BK157.out (by decide))) | (show (Addr.add _ _).block ≠ _; rw [add_block]; exact Kd.own_blk (Kd.R_ne HO_4.out BK157.out (by decide))) | (dsimp only; exact Kd.own_blk (Kd.R_ne HO_4.out BK157.out (by decide)))) _).trans (((cell_far (p := ⟨gb157, _, none⟩) (by first | exact Kd.own_blk (Kd.R_ne HO_4.out BK157.out (by decide)) | (rw [add_block]; exact Kd.own_blk (Kd.R_ne HO_4.out BK157.out (by decide))) | (show (Addr.add _ _).block ≠ _; rw [add_block]; exact Kd.own_blk (Kd.R_ne HO_4.out BK157.out (by decide))) | (dsimp only; exact Kd.own_blk (Kd.R_ne HO_4.out BK157.out (by decide)))) _).trans (((cell_far (p := ⟨gb157, _, none⟩) (by first | exact Kd.own_blk (Kd.R_ne HO_4.out BK157.out (by decide)) | (rw [add_block]; exact Kd.own_blk (Kd.R_ne HO_4.out BK157.out (by decide))) | (show (Addr.add _ _).block ≠ _; rw [add_block]; exact Kd.own_blk (Kd.R_ne HO_4.out BK157.out (by decide))) | (dsimp only; exact Kd.own_blk (Kd.R_ne HO_4.out BK157.out (by decide)))) _).trans (((cell_far (p := ⟨gb157, _, none⟩) (by first | exact Kd.own_blk (Kd.R_ne HO_4.out BK157.out (by decide)) | (rw [add_block]; exact Kd.own_blk (Kd.R_ne HO_4.out BK157.out (by decide))) | (show (Addr.add _ _).block ≠ _; rw [add_block]; exact Kd.own_blk (Kd.R_ne HO_4.out BK157.out (by decide))) | (dsimp only; exact Kd.own_blk (Kd.R_ne HO_4.out BK157.out (by decide)))) _).trans (((cell_far (p := ⟨gb157, _, none⟩) (by first | exact Kd.own_blk (Kd.R_ne HO_4.out BK157.out (by decide)) | (rw [add_block]; exact Kd.own_blk (Kd.R_ne HO_4.out BK157.out (by decide))) | (show (Addr.add _ _).block ≠ _; rw [add_block]; exact Kd.own_blk (Kd.R_ne HO_4.out BK157.out (by decide))) | (dsimp only; exact Kd.own_blk (Kd.R_ne HO_4.out BK157.out (by decide)))) _).trans (((cell_far (p := ⟨gb157, _, none⟩) (by first | exact Kd.own_blk (Kd.R_ne HO_4.out BK157.out (by decide)) | (rw [add_block]; exact Kd.own_blk (Kd.R_ne HO_4.out BK157.out (by decide))) | (show (Addr.add _ _).block ≠ _; rw [add_block]; exact Kd.own_blk (Kd.R_ne HO_4.out BK157.out (by decide))) | (dsimp only; exact Kd.own_blk (Kd.R_ne HO_4.out BK157.out (by decide)))) _).trans (hHeld.2.1)))))))))))), ((cell_far (p := ⟨gb157, _, none⟩) (by first | exact Kd.own_blk (Kd.R_ne HO_4.out BK157.out (by decide)) | (rw [add_block]; exact Kd.own_blk (Kd.R_ne HO_4.out BK157.out (by decide))) | (show (Addr.add _ _).block ≠ _; rw [add_block]; exact Kd.own_blk (Kd.R_ne HO_4.out BK157.out (by decide))) | (dsimp only; exact Kd.own_blk (Kd.R_ne HO_4.out BK157.out (by decide)))) _).trans (((cell_far (p := ⟨gb157, _, none⟩) (by first | exact Kd.own_blk (Kd.R_ne HO_4.out BK157.out (by decide)) | (rw [add_block]; exact Kd.own_blk (Kd.R_ne HO_4.out BK157.out (by decide))) | (show (Addr.add _ _).block ≠ _; rw [add_block]; exact Kd.own_blk (Kd.R_ne HO_4.out BK157.out (by decide))) | (dsimp only; exact Kd.own_blk (Kd.R_ne HO_4.out BK157.out (by decide)))) _).trans (((cell_far (p := ⟨gb157, _, none⟩) (by first | exact Kd.own_blk (Kd.R_ne HO_4.out BK157.out (by decide)) | (rw [add_block]; exact Kd.own_blk (Kd.R_ne HO_4.out BK157.out (by decide))) | (show (Addr.add _ _).block ≠ _; rw [add_block]; exact Kd.own_blk (Kd.R_ne HO_4.out BK157.out (by decide))) | (dsimp only; exact Kd.own_blk (Kd.R_ne HO_4.out BK157.out (by decide)))) _).trans (((cell_far (p := ⟨gb157, _, none⟩) (by first | exact Kd.own_blk (Kd.R_ne HO_4.out BK157.out (by decide)) | (rw [add_block]; exact Kd.own_blk (Kd.R_ne HO_4.out BK157.out (by decide))) | (show (Addr.add _ _).block ≠ _; rw [add_block]; exact Kd.own_blk (Kd.R_ne HO_4.out BK157.out (by decide))) | (dsimp only; exact Kd.own_blk (Kd.R_ne HO_4.out BK157.out (by decide)))) _).trans (((cell_far (p := ⟨gb157, _, none⟩) (by first | exact Kd.own_blk (Kd.R_ne HO_4.out BK157.out (by decide)) | (rw [add_block]; exact Kd.own_blk (Kd.R_ne HO_4.out BK157.out (by decide))) | (show (Addr.add _ _).block ≠ _; rw [add_block]; exact Kd.own_blk (Kd.R_ne HO_4.out BK157.out (by decide))) | (dsimp only; exact Kd.own_blk (Kd.R_ne HO_4.out BK157.out (by decide)))) _).trans (((cell_far (p := ⟨gb157, _, none⟩) (by first | exact Kd.own_blk (Kd.R_ne HO_4.out BK157.out (by decide)) | (rw [add_block]; exact Kd.own_blk (Kd.R_ne HO_4.out BK157.out (by decide))) | (show (Addr.add _ _).block ≠ _; rw [add_block]; exact Kd.own_blk (Kd.R_ne HO_4.out BK157.out (by decide))) | (dsimp only; exact Kd.own_blk (Kd.R_ne HO_4.out BK157.out (by decide)))) _).trans (hHeld.2.2.1)))))))))))), ((cell_far (p := ⟨gb157, _, none⟩) (by first | exact Kd.own_blk (Kd.R_ne HO_4.out BK157.out (by decide)) | (rw [add_block]; exact Kd.own_blk (Kd.R_ne HO_4.out BK157.out (by decide))) | (show (Addr.add _ _).block ≠ _; rw [add_block]; exact Kd.own_blk (Kd.R_ne HO_4.out BK157.out (by decide))) | (dsimp only; exact Kd.own_blk (Kd.R_ne HO_4.out BK157.out (by decide)))) _).trans (((cell_far (p := ⟨gb157, _, none⟩) (by first | exact Kd.own_blk (Kd.R_ne HO_4.out BK157.out (by decide)) | (rw [add_block]; exact Kd.own_blk (Kd.R_ne HO_4.out BK157.out (by decide))) | (show (Addr.add _ _).block ≠ _; rw [add_block]; exact Kd.own_blk (Kd.R_ne HO_4.out BK157.out (by decide))) | (dsimp only; exact Kd.own_blk (Kd.R_ne HO_4.out BK157.out (by decide)))) _).trans (((cell_far (p := ⟨gb157, _, none⟩) (by first | exact Kd.own_blk (Kd.R_ne HO_4.out BK157.out (by decide)) | (rw [add_block]; exact Kd.own_blk (Kd.R_ne HO_4.out BK157.out (by decide))) | (show (Addr.add _ _).block ≠ _; rw [add_block]; exact Kd.own_blk (Kd.R_ne HO_4.out BK157.out (by decide))) | (dsimp only; exact Kd.own_blk (Kd.R_ne HO_4.out BK157.out (by decide)))) _).trans (((cell_far (p := ⟨gb157, _, none⟩) (by first | exact Kd.own_blk (Kd.R_ne HO_4.out BK157.out (by decide)) | (rw [add_block]; exact Kd.own_blk (Kd.R_ne HO_4.out BK157.out (by decide))) | (show (Addr.add _ _).block ≠ _; rw [add_block]; exact Kd.own_blk (Kd.R_ne HO_4.out BK157.out (by decide))) | (dsimp only; exact Kd.own_blk (Kd.R_ne HO_4.out BK157.out (by decide)))) _).trans (((cell_far (p := ⟨gb157, _, none⟩) (by first | exact Kd.own_blk (Kd.R_ne HO_4.out BK157.out (by decide)) | (rw [add_block]; exact Kd.own_blk (Kd.R_ne HO_4.out BK157.out (by decide))) | (show (Addr.add _ _).block ≠ _; rw [add_block]; exact Kd.own_blk (Kd.R_ne HO_4.out BK157.out (by decide))) | (dsimp only; exact Kd.own_blk (Kd.R_ne HO_4.out BK157.out (by decide)))) _).trans (((cell_far (p := ⟨gb157, _, none⟩) (by first | exact Kd.own_blk (Kd.R_ne HO_4.out BK157.out (by decide)) | (rw [add_block]; exact Kd.own_blk (Kd.R_ne HO_4.out BK157.out (by decide))) | (show (Addr.add _ _).block ≠ _; rw [add_block]; exact Kd.own_blk (Kd.R_ne HO_4.out BK157.out (by decide))) | (dsimp only; exact Kd.own_blk (Kd.R_ne HO_4.out BK157.out (by decide)))) _).trans (hHeld.2.2.2.1)))))))))))), ((cell_far (p := ⟨gb157, _, none⟩) (by first | exact Kd.own_blk (Kd.R_ne HO_4.out BK157.out (by decide)) | (rw [add_block]; exact Kd.own_blk (Kd.R_ne HO_4.out BK157.out (by decide))) | (show (Addr.add _ _).block ≠ _; rw [add_block]; exact Kd.own_blk (Kd.R_ne HO_4.out BK157.out (by decide))) | (dsimp only; exact Kd.own_blk (Kd.R_ne HO_4.out BK157.out (by decide)))) _).trans (((cell_far (p := ⟨gb157, _, none⟩) (by first | exact Kd.own_blk (Kd.R_ne HO_4.out BK157.out (by decide)) | (rw [add_block]; exact Kd.own_blk (Kd.R_ne HO_4.out BK157.out (by decide))) | (show (Addr.add _ _).block ≠ _; rw [add_block]; exact Kd.own_blk (Kd.R_ne HO_4.out BK157.out (by decide))) | (dsimp only; exact Kd.own_blk (Kd.R_ne HO_4.out BK157.out (by decide)))) _).trans (((cell_far (p := ⟨gb157, _, none⟩) (by first | exact Kd.own_blk (Kd.R_ne HO_4.out BK157.out (by decide)) | (rw [add_block]; exact Kd.own_blk (Kd.R_ne HO_4.out BK157.out (by decide))) | (show (Addr.add _ _).block ≠ _; rw [add_block]; exact Kd.own_blk (Kd.R_ne HO_4.out BK157.out (by decide))) | (dsimp only; exact Kd.own_blk (Kd.R_ne HO_4.out BK157.out (by decide)))) _).trans (((cell_far (p := ⟨gb157, _, none⟩) (by first | exact Kd.own_blk (Kd.R_ne HO_4.out BK157.out (by decide)) | (rw [add_block]; exact Kd.own_blk (Kd.R_ne HO_4.out BK157.out (by decide))) | (show (Addr.add _ _).block ≠ _; rw [add_block]; exact Kd.own_blk (Kd.R_ne HO_4.out BK157.out (by decide))) | (dsimp only; exact Kd.own_blk (Kd.R_ne HO_4.out BK157.out (by decide)))) _).trans (((cell_far (p := ⟨gb157, _, none⟩) (by first | exact Kd.own_blk (Kd.R_ne HO_4.out BK157.out (by decide)) | (rw [add_block]; exact Kd.own_blk (Kd.R_ne HO_4.out BK157.out (by decide))) | (show (Addr.add _ _).block ≠ _; rw [add_block]; exact Kd.own_blk (Kd.R_ne HO_4.out BK157.out (by decide))) | (dsimp only; exact Kd.own_blk (Kd.R_ne HO_4.out BK157.out (by decide)))) _).trans (((cell_far (p := ⟨gb157, _, none⟩) (by first | exact Kd.own_blk (Kd.R_ne HO_4.out BK157.out (by decide)) | (rw [add_block]; exact Kd.own_blk (Kd.R_ne HO_4.out BK157.out (by decide))) | (show (Addr.add _ _).block ≠ _; rw [add_block]; exact Kd.own_blk (Kd.R_ne HO_4.out BK157.out (by decide))) | (dsimp only; exact Kd.own_blk (Kd.R_ne HO_4.out BK157.out (by decide)))) _).trans (hHeld.2.2.2.2))))))))))))⟩ (fun hHeld => ?_)
             clear hK K
             refine done_ (done_of HT_.out (by kernel_rfl)) ?_
             have hnb33 := NB157_147.out
             have hnc33 := NB147_157.out
             have hcz34_0 := cz0_ BK157
             have hcz34_1 := cz1_ BK157
             have hcz34_2 := cz2_ BK157
             have hcz34_3 := cz3_ BK157
             have hcz34_4 := cz4_ BK157
             have hcz34_5 := cz5_ BK157
             have hfz34_0 := fz_ BK157 0
             have hfz34_1 := fz_ BK157 1
             have hfz34_2 := fz_ BK157 2
             have hfz34_3 := fz_ BK157 3
             have hfz34_4 := fz_ BK157 4
             have hfz34_5 := fz_ BK157 5
             try go_wp2_with (first | ((with_reducible refine gate_callee (f := 78) rfl ?_); refine goesL_ (some 54) rfl rfl Tryz.func78 (by kernel_rfl) rfl #[.agg #[.int .i64 (rd x4_2 0), .int .i64 (rd x4_2 1), .int .i64 (rd x4_2 2), .int .i64 (rd x4_2 3), .int .i64 (rd x4_2 4), .bool ((a0.size : Int) == 6)]] rfl args_ ?_; (with_reducible refine (spec_shGood.calls k2 (rd x4_2 0) (rd x4_2 1) (rd x4_2 2) (rd x4_2 3) (rd x4_2 4) ((a0.size : Int) == 6) true _ A22.out).mono ?_); rintro e w35 ⟨rfl, hb⟩; refine ⟨_, rfl, ?_⟩; have n0_ := Aside0.mk (Kd.R_below (rf_ (fm_ (fr_ (fr_ (fr_ (fr_ (fr_ (fr_ (ft_ HO_4 BK157) 0 (.int .i64 (rd x4_2 0))) 1 (.int .i64 (rd x4_2 1))) 2 (.int .i64 (rd x4_2 2))) 3 (.int .i64 (rd x4_2 3))) 4 (.int .i64 (rd x4_2 4))) 5 (.bool ((a0.size : Int) == 6))))) hb); have n1_ := Aside0.mk (blk_below (g := gb147) (o := .cells #[.int .i64 0, .int .i64 0, .int .i64 0, .int .i64 0, .int .i64 0, .bool false] 37 (0, 0)) (by (with_reducible repeat (first | apply lN_ | apply lD_ | apply lA_)); refine blk_far ?_ NB147_157.out _; (with_reducible repeat (first | apply lN_ | apply lD_ | apply lA_)); refine blk_far ?_ NB147_157.out _; (with_reducible repeat (first | apply lN_ | apply lD_ | apply lA_)); refine blk_far ?_ NB147_157.out _; (with_reducible repeat (first | apply lN_ | apply lD_ | apply lA_)); refine blk_far ?_ NB147_157.out _; (with_reducible repeat (first | apply lN_ | apply lD_ | apply lA_)); refine blk_far ?_ NB147_157.out _; (with_reducible repeat (first | apply lN_ | apply lD_ | apply lA_)); refine blk_far ?_ NB147_157.out _; (with_reducible repeat (first | apply lN_ | apply lD_ | apply lA_)); exact BK147.out) hb); have n2_ := Aside0.mk (blk_below (g := gb157) (o := .cells #[.int .i64 (rd x4_2 0), .int .i64 (rd x4_2 1), .int .i64 (rd x4_2 2), .int .i64 (rd x4_2 3), .int .i64 (rd x4_2 4), .bool ((a0.size : Int) == 6)] 37 (0, 0)) (by (with_reducible repeat (first | apply lN_ | apply lD_ | apply lA_)); refine blk_put (cs := #[.int .i64 (rd x4_2 0), .int .i64 (rd x4_2 1), .int .i64 (rd x4_2 2), .int .i64 (rd x4_2 3), .int .i64 (rd x4_2 4), .bool false]) ?_ 5 _ rfl; (with_reducible repeat (first | apply lN_ | apply lD_ | apply lA_)); refine blk_put (cs := #[.int .i64 (rd x4_2 0), .int .i64 (rd x4_2 1), .int .i64 (rd x4_2 2), .int .i64 (rd x4_2 3), .int .i64 0, .bool false]) ?_ 4 _ rfl; (with_reducible repeat (first | apply lN_ | apply lD_ | apply lA_)); refine blk_put (cs := #[.int .i64 (rd x4_2 0), .int .i64 (rd x4_2 1), .int .i64 (rd x4_2 2), .int .i64 0, .int .i64 0, .bool false]) ?_ 3 _ rfl; (with_reducible repeat (first | apply lN_ | apply lD_ | apply lA_)); refine blk_put (cs := #[.int .i64 (rd x4_2 0), .int .i64 (rd x4_2 1), .int .i64 0, .int .i64 0, .int .i64 0, .bool false]) ?_ 2 _ rfl; (with_reducible repeat (first | apply lN_ | apply lD_ | apply lA_)); refine blk_put (cs := #[.int .i64 (rd x4_2 0), .int .i64 0, .int .i64 0, .int .i64 0, .int .i64 0, .bool false]) ?_ 1 _ rfl; (with_reducible repeat (first | apply lN_ | apply lD_ | apply lA_)); refine blk_put (cs := #[.int .i64 0, .int .i64 0, .int .i64 0, .int .i64 0, .int .i64 0, .bool false]) ?_ 0 _ rfl; (with_reducible repeat (first | apply lN_ | apply lD_ | apply lA_)); exact BK157.out) hb); have n3_ := Aside0.mk (below_step (bb2_ HB GE147 GE157) hb); clear HO_4; clear BK147; clear BK157; clear HB; have HO_4 := n0_; have BK147 := n1_; have BK157 := n2_; have HB := n3_; clear n0_ n1_ n2_ n3_; (try clear hb); (try clear hb2); (try clear hk); (try clear hi); have hcz36_0 := cz0_ BK157; have hcz36_1 := cz1_ BK157; have hcz36_2 := cz2_ BK157; have hcz36_3 := cz3_ BK157; have hcz36_4 := cz4_ BK157; have hcz36_5 := cz5_ BK157; have hfz36_0 := fz_ BK157 0; have hfz36_1 := fz_ BK157 1; have hfz36_2 := fz_ BK157 2; have hfz36_3 := fz_ BK157 3; have hfz36_4 := fz_ BK157 4; have hfz36_5 := fz_ BK157 5; have hcz37_0 := cz0_ BK147; have hcz37_1 := cz1_ BK147; have hcz37_2 := cz2_ BK147; have hcz37_3 := cz3_ BK147; have hcz37_4 := cz4_ BK147; have hcz37_5 := cz5_ BK147; have hfz37_0 := fz_ BK147 0; have hfz37_1 := fz_ BK147 1; have hfz37_2 := fz_ BK147 2; have hfz37_3 := fz_ BK147 3; have hfz37_4 := fz_ BK147 4; have hfz37_5 := fz_ BK147 5))
             refine bodyPost_ret (results_ct rfl _ _ gb147 37 #[.int .i64 (rd x4_2 0), .int .i64 (rd x4_2 1), .int .i64 (rd x4_2 2), .int .i64 (rd x4_2 3), .int .i64 (rd x4_2 4), .bool ((a0.size : Int) == 6)] (0, 0) _ rfl (by (with_reducible repeat (first | apply lN_ | apply lD_ | apply lA_)); refine blk_put (cs := #[.int .i64 (rd x4_2 0), .int .i64 (rd x4_2 1), .int .i64 (rd x4_2 2), .int .i64 (rd x4_2 3), .int .i64 (rd x4_2 4), .bool false]) ?_ 5 _ rfl; (with_reducible repeat (first | apply lN_ | apply lD_ | apply lA_)); refine blk_put (cs := #[.int .i64 (rd x4_2 0), .int .i64 (rd x4_2 1), .int .i64 (rd x4_2 2), .int .i64 (rd x4_2 3), .int .i64 0, .bool false]) ?_ 4 _ rfl; (with_reducible repeat (first | apply lN_ | apply lD_ | apply lA_)); refine blk_put (cs := #[.int .i64 (rd x4_2 0), .int .i64 (rd x4_2 1), .int .i64 (rd x4_2 2), .int .i64 0, .int .i64 0, .bool false]) ?_ 3 _ rfl; (with_reducible repeat (first | apply lN_ | apply lD_ | apply lA_)); refine blk_put (cs := #[.int .i64 (rd x4_2 0), .int .i64 (rd x4_2 1), .int .i64 0, .int .i64 0, .int .i64 0, .bool false]) ?_ 2 _ rfl; (with_reducible repeat (first | apply lN_ | apply lD_ | apply lA_)); refine blk_put (cs := #[.int .i64 (rd x4_2 0), .int .i64 0, .int .i64 0, .int .i64 0, .int .i64 0, .bool false]) ?_ 1 _ rfl; (with_reducible repeat (first | apply lN_ | apply lD_ | apply lA_)); refine blk_put (cs := #[.int .i64 0, .int .i64 0, .int .i64 0, .int .i64 0, .int .i64 0, .bool false]) ?_ 0 _ rfl; (with_reducible repeat (first | apply lN_ | apply lD_ | apply lA_)); exact BK147.out) Tryz.underlying37 rfl (by kernel_rfl)) rfl ?_
             exact ⟨by first | rfl | (simp [errW_none, errW_some] <;> rfl) | (simp [*, errW_none, errW_some] <;> rfl), bb2_ HB GE147 GE157⟩
            ·replace c23 := Bool.eq_false_iff.mpr c23
             subst c23
             have H1 : (some (0, 0, 0, 0, 0, false, false)) = some (r1, r2, r3, r4, r5, r6, r7) := by rw [if_neg (show ¬ (false = true) by decide)] at H; exact H
             clear H
             have H := H1
             clear H1
             simp only [Option.some.injEq, Prod.mk.injEq] at H
             obtain ⟨rfl, rfl, rfl, rfl, rfl, rfl, rfl⟩ := H
             try go_wp2
             have n0_ := Aside0.mk (Kd.R_drew HO_4.out)
             have n1_ := Aside0.mk (blk_drew BK147.out)
             have n2_ := Aside0.mk (below_drew1 HB.out)
             clear HO_4
             clear BK147
             clear HB
             have HO_4 := n0_
             have BK147 := n1_
             have HB := n2_
             clear n0_ n1_ n2_
             obtain ⟨Ao39, co39, eo39⟩ := Kd.R_slice HO_4.out
             (first | subst eo39 | (injection eo39 with f1_ f2_ f3_; have f4_ := f1_.symm; have f5_ := f3_.symm; clear f1_ f2_ f3_; subst f4_; subst f5_))
             have p152 : 0 ≤ (0 : Int) := (by omega)
             have q152 : 0 < (x4_2.length : Int) := of_decide_eq_true as_
             obtain ⟨ad152, e152, hx152_0⟩ := Kd.at_int (Kd.R_reads' HO_4.out).2.2 0 p152 q152
             cases e152
             have qi152 : (0 < x4_2.length) = True := eq_true (by omega)
             (try rw [show ((0 : Int)).toNat = 0 from rfl] at hx152_0)
             (try rw [Addr.add_zero'] at hx152_0)
             replace p152 := eq_true p152
             replace q152 := eq_true q152
             have p153 : 0 ≤ (1 : Int) := (by omega)
             have q153 : 1 < (x4_2.length : Int) := of_decide_eq_true as_
             obtain ⟨ad153, e153, hx153_0⟩ := Kd.at_int (Kd.R_reads' HO_4.out).2.2 1 p153 q153
             obtain rfl : ad152 = ad153 := (by injection e153)
             (try simp only [show (1 : Int).toNat = 1 from rfl, Nat.reduceMul, Nat.reduceEqDiff, Go.Addr.add, ↓reduceIte] at hx153_0)
             have qi153 : (1 < x4_2.length) = True := eq_true (by omega)
             (try rw [show ((1 : Int)).toNat = 1 from rfl] at hx153_0)
             replace p153 := eq_true p153
             replace q153 := eq_true q153
             have p154 : 0 ≤ (2 : Int) := (by omega)
             have q154 : 2 < (x4_2.length : Int) := of_decide_eq_true as_
             obtain ⟨ad154, e154, hx154_0⟩ := Kd.at_int (Kd.R_reads' HO_4.out).2.2 2 p154 q154
             obtain rfl : ad152 = ad154 := (by injection e154)
             (try simp only [show (2 : Int).toNat = 2 from rfl, Nat.reduceMul, Nat.reduceEqDiff, Go.Addr.add, ↓reduceIte] at hx154_0)
             have qi154 : (2 < x4_2.length) = True := eq_true (by omega)
             (try rw [show ((2 : Int)).toNat = 2 from rfl] at hx154_0)
             replace p154 := eq_true p154
             replace q154 := eq_true q154
             have p155 : 0 ≤ (3 : Int) := (by omega)
             have q155 : 3 < (x4_2.length : Int) := of_decide_eq_true as_
             obtain ⟨ad155, e155, hx155_0⟩ := Kd.at_int (Kd.R_reads' HO_4.out).2.2 3 p155 q155
             obtain rfl : ad152 = ad155 := (by injection e155)
             (try simp only [show (3 : Int).toNat = 3 from rfl, Nat.reduceMul, Nat.reduceEqDiff, Go.Addr.add, ↓reduceIte] at hx155_0)
             have qi155 : (3 < x4_2.length) = True := eq_true (by omega)
             (try rw [show ((3 : Int)).toNat = 3 from rfl] at hx155_0)
             replace p155 := eq_true p155
             replace q155 := eq_true q155
             have p156 : 0 ≤ (4 : Int) := (by omega)
             have q156 : 4 < (x4_2.length : Int) := of_decide_eq_true as_
             obtain ⟨ad156, e156, hx156_0⟩ := Kd.at_int (Kd.R_reads' HO_4.out).2.2 4 p156 q156
             obtain rfl : ad152 = ad156 := (by injection e156)
             (try simp only [show (4 : Int).toNat = 4 from rfl, Nat.reduceMul, Nat.reduceEqDiff, Go.Addr.add, ↓reduceIte] at hx156_0)
             have qi156 : (4 < x4_2.length) = True := eq_true (by omega)
             (try rw [show ((4 : Int)).toNat = 4 from rfl] at hx156_0)
             replace p156 := eq_true p156
             replace q156 := eq_true q156
             refine start_ (n := 21) (S := fun w' => w'.cell? ad152 = some (.int .i64 (rd x4_2 0)) ∧ w'.cell? ⟨ad152.block, ad152.off + 1, none⟩ = some (.int .i64 (rd x4_2 1)) ∧ w'.cell? ⟨ad152.block, ad152.off + 2, none⟩ = some (.int .i64 (rd x4_2 2)) ∧ w'.cell? ⟨ad152.block, ad152.off + 3, none⟩ = some (.int .i64 (rd x4_2 3)) ∧ w'.cell? ⟨ad152.block, ad152.off + 4, none⟩ = some (.int .i64 (rd x4_2 4))) (ds := []) #[false, false, false, false, false, false, false, false, false, false, false, false, false, false, false, false, false, false, false, false, false] (by kernel_rfl) rfl rfl ⟨hx152_0, hx153_0, hx154_0, hx155_0, hx156_0⟩ (fun hHeld => ?_); refine with_tabW spec_shParse.tab8 spec_shParse.bits8 (fun HT_ HW_ => ?_)
             generalize wr.drew = w38 at HO_4 BK147 HB hx152_0 hx153_0 hx154_0 hx155_0 hx156_0 hHeld ⊢
             refine pu2_ (i := 0) (N := some 34) #[true, false, false, false, false, false, false, false, false, false, false, false, false, false, false, false, false, false, false, false, false] rfl rfl ?_
             refine pu2_ (i := 1) (N := some 35) #[true, true, false, false, false, false, false, false, false, false, false, false, false, false, false, false, false, false, false, false, false] rfl rfl ?_
             refine pu2_ (i := 3) (N := some 37) #[true, true, false, true, false, false, false, false, false, false, false, false, false, false, false, false, false, false, false, false, false] rfl rfl ?_
             refine pu2_ (i := 4) (N := some 38) #[true, true, false, true, true, false, false, false, false, false, false, false, false, false, false, false, false, false, false, false, false] rfl rfl ?_
             refine pu2_ (i := 6) (N := some 40) #[true, true, false, true, true, false, true, false, false, false, false, false, false, false, false, false, false, false, false, false, false] rfl rfl ?_
             refine pu2_ (i := 7) (N := some 41) #[true, true, false, true, true, false, true, true, false, false, false, false, false, false, false, false, false, false, false, false, false] rfl rfl ?_
             refine pu2_ (i := 9) (N := some 43) #[true, true, false, true, true, false, true, true, false, true, false, false, false, false, false, false, false, false, false, false, false] rfl rfl ?_
             refine pu2_ (i := 10) (N := some 44) #[true, true, false, true, true, false, true, true, false, true, true, false, false, false, false, false, false, false, false, false, false] rfl rfl ?_
             refine pu2_ (i := 12) (N := some 46) #[true, true, false, true, true, false, true, true, false, true, true, false, true, false, false, false, false, false, false, false, false] rfl rfl ?_
             refine pu2_ (i := 13) (N := some 47) #[true, true, false, true, true, false, true, true, false, true, true, false, true, true, false, false, false, false, false, false, false] rfl rfl ?_
             refine pu2_ (i := 15) (N := some 49) #[true, true, false, true, true, false, true, true, false, true, true, false, true, true, false, true, false, false, false, false, false] rfl rfl ?_
             refine pu2_ (i := 16) (N := some 50) #[true, true, false, true, true, false, true, true, false, true, true, false, true, true, false, true, true, false, false, false, false] rfl rfl ?_
             refine pu2_ (i := 17) (N := some 51) #[true, true, false, true, true, false, true, true, false, true, true, false, true, true, false, true, true, true, false, false, false] rfl rfl ?_
             refine tk2_ (i := 2) (N := some 36) #[true, true, true, true, true, false, true, true, false, true, true, false, true, true, false, true, true, true, false, false, false] rfl rfl hHeld ?_
             refine tk2_ (i := 5) (N := some 39) #[true, true, true, true, true, true, true, true, false, true, true, false, true, true, false, true, true, true, false, false, false] rfl rfl hHeld ?_
             refine tk2_ (i := 8) (N := some 42) #[true, true, true, true, true, true, true, true, true, true, true, false, true, true, false, true, true, true, false, false, false] rfl rfl hHeld ?_
             refine tk2_ (i := 11) (N := some 45) #[true, true, true, true, true, true, true, true, true, true, true, true, true, true, false, true, true, true, false, false, false] rfl rfl hHeld ?_
             refine tk2_ (i := 14) (N := some 48) #[true, true, true, true, true, true, true, true, true, true, true, true, true, true, true, true, true, true, false, false, false] rfl rfl hHeld ?_
             refine pu2_ (i := 18) (N := some 52) #[true, true, true, true, true, true, true, true, true, true, true, true, true, true, true, true, true, true, true, false, false] rfl rfl ?_
             refine one_ (i := 19) (N := some 6) #[true, true, true, true, true, true, true, true, true, true, true, true, true, true, true, true, true, true, true, true, false] rfl rfl (one_of HT_.out (by kernel_rfl)) (by decide) (fun K hK => ?_)
             refine box_step ?hg (N := 6) ?hd (cs := #[.int .i64 0, .int .i64 0, .int .i64 0, .int .i64 0, .int .i64 0, .bool false]) (t := 37) ?hr ?_; (case hd => rfl); (case hg => rfl); (case hr => first | (go_simp; done) | (go_simp; rfl))
             intro gb157 hg w40 hbox hb
             have HS0_ := (hb.cell (World.block_lt_of_cell? _ _ (hHeld.1))).trans (hHeld.1)
             have HS1_ := (hb.cell (World.block_lt_of_cell? _ _ (hHeld.2.1))).trans (hHeld.2.1)
             have HS2_ := (hb.cell (World.block_lt_of_cell? _ _ (hHeld.2.2.1))).trans (hHeld.2.2.1)
             have HS3_ := (hb.cell (World.block_lt_of_cell? _ _ (hHeld.2.2.2.1))).trans (hHeld.2.2.2.1)
             have HS4_ := (hb.cell (World.block_lt_of_cell? _ _ (hHeld.2.2.2.2))).trans (hHeld.2.2.2.2)
             have n0_ := Aside0.mk (Kd.R_below (ra_ HO_4) hb)
             have n1_ := Aside0.mk (lb_ BK147 hb)
             have n2_ := Aside0.mk (below_step (bb1_ HB GE147) hb)
             have n3_ := Aside0.mk (hbox)
             have n4_ := gy_ hg (bb1_ HB GE147)
             have n5_ := gy_ hg (bb1_ HB GE147)
             have n6_ := nl_ hg BK147
             have n7_ := ng_ hg BK147
             clear HO_4
             clear BK147
             clear HB
             have HO_4 := n0_
             have BK147 := n1_
             have HB := n2_
             have BK157 := n3_
             have GW157 := n4_
             have GE157 := n5_
             have NB147_157 := n6_
             have NB157_147 := n7_
             clear n0_ n1_ n2_ n3_ n4_ n5_ n6_ n7_
             clear hb hbox hg
             refine hK.out _ _ ⟨HS0_, HS1_, HS2_, HS3_, HS4_⟩ (fun hHeld => ?_)
             clear hK K
             refine nm2_ ?_
             refine one_ (i := 20) (N := none) #[true, true, true, true, true, true, true, true, true, true, true, true, true, true, true, true, true, true, true, true, true] rfl rfl (one_of HT_.out (by kernel_rfl)) (by decide) (fun K hK => ?_)
             have hs41 := cz0_ BK157
             have hfs41 := fz_ BK157 0
             have hns41_0 := NB147_157.out
             have hms41_0 := NB157_147.out
             have hs42 := cz1_ BK157
             have hfs42 := fz_ BK157 1
             have hns42_0 := NB147_157.out
             have hms42_0 := NB157_147.out
             have hs43 := cz2_ BK157
             have hfs43 := fz_ BK157 2
             have hns43_0 := NB147_157.out
             have hms43_0 := NB157_147.out
             have hs44 := cz3_ BK157
             have hfs44 := fz_ BK157 3
             have hns44_0 := NB147_157.out
             have hms44_0 := NB157_147.out
             have hs45 : w40.cell? ⟨gb157, 4, none⟩ = some (.int .i64 0) := (blk_cell BK157.out 4).trans rfl
             have hfs45 := fz_ BK157 4
             have hns45_0 := NB147_157.out
             have hms45_0 := NB157_147.out
             have hs46 : w40.cell? ⟨gb157, 5, none⟩ = some (.bool false) := (blk_cell BK157.out 5).trans rfl
             have hfs46 := fz_ BK157 5
             have hns46_0 := NB147_157.out
             have hms46_0 := NB157_147.out
             refine skip_ (w1 := ?_) (by rfl) rfl ?_ ?_
             rotate_left
             ·go_simp
              rfl
             refine hK.out _ _ ⟨((cell_far (p := ⟨gb157, _, none⟩) (by first | exact Kd.own_blk (Kd.R_ne HO_4.out BK157.out (by decide)) | (rw [add_block]; exact Kd.own_blk (Kd.R_ne HO_4.out BK157.out (by decide))) | (show (Addr.add _ _).block ≠ _; rw [add_block]; exact Kd.own_blk (Kd.R_ne HO_4.out BK157.out (by decide))) | (dsimp only; exact Kd.own_blk (Kd.R_ne HO_4.out BK157.out (by decide)))) _).trans (((cell_far (p := ⟨gb157, _, none⟩) (by first | exact Kd.own_blk (Kd.R_ne HO_4.out BK157.out (by decide)) | (rw [add_block]; exact Kd.own_blk (Kd.R_ne HO_4.out BK157.out (by decide))) | (show (Addr.add _ _).block ≠ _; rw [add_block]; exact Kd.own_blk (Kd.R_ne HO_4.out BK157.out (by decide))) | (dsimp only; exact Kd.own_blk (Kd.R_ne HO_4.out BK157.out (by decide)))) _).trans (((cell_far (p := ⟨gb157, _, none⟩) (by first | exact Kd.own_blk (Kd.R_ne HO_4.out BK157.out (by decide)) | (rw [add_block]; exact Kd.own_blk (Kd.R_ne HO_4.out BK157.out (by decide))) | (show (Addr.add _ _).block ≠ _; rw [add_block]; exact Kd.own_blk (Kd.R_ne HO_4.out BK157.out (by decide))) | (dsimp only; exact Kd.own_blk (Kd.R_ne HO_4.out BK157.out (by decide)))) _).trans (((cell_far (p := ⟨gb157, _, none⟩) (by first | exact Kd.own_blk (Kd.R_ne HO_4.out BK157.out (by decide)) | (rw [add_block]; exact Kd.own_blk (Kd.R_ne HO_4.out BK157.out (by decide))) | (show (Addr.add _ _).block ≠ _; rw [add_block]; exact Kd.own_blk (Kd.R_ne HO_4.out BK157.out (by decide))) | (dsimp only; exact Kd.own_blk (Kd.R_ne HO_4.out BK157.out (by decide)))) _).trans (((cell_far (p := ⟨gb157, _, none⟩) (by first | exact Kd.own_blk (Kd.R_ne HO_4.out BK157.out (by decide)) | (rw [add_block]; exact Kd.own_blk (Kd.R_ne HO_4.out BK157.out (by decide))) | (show (Addr.add _ _).block ≠ _; rw [add_block]; exact Kd.own_blk (Kd.R_ne HO_4.out BK157.out (by decide))) | (dsimp only; exact Kd.own_blk (Kd.R_ne HO_4.out BK157.out (by decide)))) _).trans (((cell_far (p := ⟨gb157, _, none⟩) (by first | exact Kd.own_blk (Kd.R_ne HO_4.out BK157.out (by decide)) | (rw [add_block]; exact Kd.own_blk (Kd.R_ne HO_4.out BK157.out (by decide))) | (show (Addr.add _ _).block ≠ _; rw [add_block]; exact Kd.own_blk (Kd.R_ne HO_4.out BK157.out (by decide))) | (dsimp only; exact Kd.own_blk (Kd.R_ne HO_4.out BK157.out (by decide)))) _).trans (hHeld.1)))))))))))), ((cell_far (p := ⟨gb157, _, none⟩) (by first | exact Kd.own_blk (Kd.R_ne HO_4.out BK157.out (by decide)) | (rw [add_block]; exact Kd.own_blk (Kd.R_ne HO_4.out BK157.out (by decide))) | (show (Addr.add _ _).block ≠ _; rw [add_block]; exact Kd.own_blk (Kd.R_ne HO_4.out BK157.out (by decide))) | (dsimp only; exact Kd.own_blk (Kd.R_ne HO_4.out BK157.out (by decide)))) _).trans (((cell_far (p := ⟨gb157, _, none⟩) (by first | exact Kd.own_blk (Kd.R_ne HO_4.out BK157.out (by decide)) | (rw [add_block]; exact Kd.own_blk (Kd.R_ne HO_4.out BK157.out (by decide))) | (show (Addr.add _ _).block ≠ _; rw [add_block]; exact Kd.own_blk (Kd.R_ne HO_4.out BK157.out (by decide))) | (dsimp only; exact Kd.own_blk (Kd.R_ne HO_4.out BK157.out (by decide)))) _).trans (((cell_far (p := ⟨gb157, _, none⟩) (by first | exact Kd.own_blk (Kd.R_ne HO_4.out BK157.out (by decide)) | (rw [add_block]; exact Kd.own_blk (Kd.R_ne HO_4.out BK157.out (by decide))) | (show (Addr.add _ _).block ≠ _; rw [add_block]; exact Kd.own_blk (Kd.R_ne HO_4.out BK157.out (by decide))) | (dsimp only; exact Kd.own_blk (Kd.R_ne HO_4.out BK157.out (by decide)))) _).trans (((cell_far (p := ⟨gb157, _, none⟩) (by first | exact Kd.own_blk (Kd.R_ne HO_4.out BK157.out (by decide)) | (rw [add_block]; exact Kd.own_blk (Kd.R_ne HO_4.out BK157.out (by decide))) | (show (Addr.add _ _).block ≠ _; rw [add_block]; exact Kd.own_blk (Kd.R_ne HO_4.out BK157.out (by decide))) | (dsimp only; exact Kd.own_blk (Kd.R_ne HO_4.out BK157.out (by decide)))) _).trans (((cell_far (p := ⟨gb157, _, none⟩) (by first | exact Kd.own_blk (Kd.R_ne HO_4.out BK157.out (by decide)) | (rw [add_block]; exact Kd.own_blk (Kd.R_ne HO_4.out BK157.out (by decide))) | (show (Addr.add _ _).block ≠ _; rw [add_block]; exact Kd.own_blk (Kd.R_ne HO_4.out BK157.out (by decide))) | (dsimp only; exact Kd.own_blk (Kd.R_ne HO_4.out BK157.out (by decide)))) _).trans (((cell_far (p := ⟨gb157, _, none⟩) (by first | exact Kd.own_blk (Kd.R_ne HO_4.out BK157.out (by decide)) | (rw [add_block]; exact Kd.own_blk (Kd.R_ne HO_4.out BK157.out (by decide))) | (show (Addr.add _ _).block ≠ _; rw [add_block]; exact Kd.own_blk (Kd.R_ne HO_4.out BK157.out (by decide))) | (dsimp only; exact Kd.own_blk (Kd.R_ne HO_4.out BK157.out (by decide)))) _).trans (hHeld.2.1)))))))))))), ((cell_far (p := ⟨gb157, _, none⟩) (by first | exact Kd.own_blk (Kd.R_ne HO_4.out BK157.out (by decide)) | (rw [add_block]; exact Kd.own_blk (Kd.R_ne HO_4.out BK157.out (by decide))) | (show (Addr.add _ _).block ≠ _; rw [add_block]; exact Kd.own_blk (Kd.R_ne HO_4.out BK157.out (by decide))) | (dsimp only; exact Kd.own_blk (Kd.R_ne HO_4.out BK157.out (by decide)))) _).trans (((cell_far (p := ⟨gb157, _, none⟩) (by first | exact Kd.own_blk (Kd.R_ne HO_4.out BK157.out (by decide)) | (rw [add_block]; exact Kd.own_blk (Kd.R_ne HO_4.out BK157.out (by decide))) | (show (Addr.add _ _).block ≠ _; rw [add_block]; exact Kd.own_blk (Kd.R_ne HO_4.out BK157.out (by decide))) | (dsimp only; exact Kd.own_blk (Kd.R_ne HO_4.out BK157.out (by decide)))) _).trans (((cell_far (p := ⟨gb157, _, none⟩) (by first | exact Kd.own_blk (Kd.R_ne HO_4.out BK157.out (by decide)) | (rw [add_block]; exact Kd.own_blk (Kd.R_ne HO_4.out BK157.out (by decide))) | (show (Addr.add _ _).block ≠ _; rw [add_block]; exact Kd.own_blk (Kd.R_ne HO_4.out BK157.out (by decide))) | (dsimp only; exact Kd.own_blk (Kd.R_ne HO_4.out BK157.out (by decide)))) _).trans (((cell_far (p := ⟨gb157, _, none⟩) (by first | exact Kd.own_blk (Kd.R_ne HO_4.out BK157.out (by decide)) | (rw [add_block]; exact Kd.own_blk (Kd.R_ne HO_4.out BK157.out (by decide))) | (show (Addr.add _ _).block ≠ _; rw [add_block]; exact Kd.own_blk (Kd.R_ne HO_4.out BK157.out (by decide))) | (dsimp only; exact Kd.own_blk (Kd.R_ne HO_4.out BK157.out (by decide)))) _).trans (((cell_far (p := ⟨gb157, _, none⟩) (by first | exact Kd.own_blk (Kd.R_ne HO_4.out BK157.out (by decide)) | (rw [add_block]; exact Kd.own_blk (Kd.R_ne HO_4.out BK157.out (by decide))) | (show (Addr.add _ _).block ≠ _; rw [add_block]; exact Kd.own_blk (Kd.R_ne HO_4.out BK157.out (by decide))) | (dsimp only; exact Kd.own_blk (Kd.R_ne HO_4.out BK157.out (by decide)))) _).trans (((cell_far (p := ⟨gb157, _, none⟩) (by first | exact Kd.own_blk (Kd.R_ne HO_4.out BK157.out (by decide)) | (rw [add_block]; exact Kd.own_blk (Kd.R_ne HO_4.out BK157.out (by decide))) | (show (Addr.add _ _).block ≠ _; rw [add_block]; exact Kd.own_blk (Kd.R_ne HO_4.out BK157.out (by decide))) | (dsimp only; exact Kd.own_blk (Kd.R_ne HO_4.out BK157.out (by decide)))) _).trans (hHeld.2.2.1)))))))))))), ((cell_far (p := ⟨gb157, _, none⟩) (by first | exact Kd.own_blk (Kd.R_ne HO_4.out BK157.out (by decide)) | (rw [add_block]; exact Kd.own_blk (Kd.R_ne HO_4.out BK157.out (by decide))) | (show (Addr.add _ _).block ≠ _; rw [add_block]; exact Kd.own_blk (Kd.R_ne HO_4.out BK157.out (by decide))) | (dsimp only; exact Kd.own_blk (Kd.R_ne HO_4.out BK157.out (by decide)))) _).trans (((cell_far (p := ⟨gb157, _, none⟩) (by first | exact Kd.own_blk (Kd.R_ne HO_4.out BK157.out (by decide)) | (rw [add_block]; exact Kd.own_blk (Kd.R_ne HO_4.out BK157.out (by decide))) | (show (Addr.add _ _).block ≠ _; rw [add_block]; exact Kd.own_blk (Kd.R_ne HO_4.out BK157.out (by decide))) | (dsimp only; exact Kd.own_blk (Kd.R_ne HO_4.out BK157.out (by decide)))) _).trans (((cell_far (p := ⟨gb157, _, none⟩) (by first | exact Kd.own_blk (Kd.R_ne HO_4.out BK157.out (by decide)) | (rw [add_block]; exact Kd.own_blk (Kd.R_ne HO_4.out BK157.out (by decide))) | (show (Addr.add _ _).block ≠ _; rw [add_block]; exact Kd.own_blk (Kd.R_ne HO_4.out BK157.out (by decide))) | (dsimp only; exact Kd.own_blk (Kd.R_ne HO_4.out BK157.out (by decide)))) _).trans (((cell_far (p := ⟨gb157, _, none⟩) (by first | exact Kd.own_blk (Kd.R_ne HO_4.out BK157.out (by decide)) | (rw [add_block]; exact Kd.own_blk (Kd.R_ne HO_4.out BK157.out (by decide))) | (show (Addr.add _ _).block ≠ _; rw [add_block]; exact Kd.own_blk (Kd.R_ne HO_4.out BK157.out (by decide))) | (dsimp only; exact Kd.own_blk (Kd.R_ne HO_4.out BK157.out (by decide)))) _).trans (((cell_far (p := ⟨gb157, _, none⟩) (by first | exact Kd.own_blk (Kd.R_ne HO_4.out BK157.out (by decide)) | (rw [add_block]; exact Kd.own_blk (Kd.R_ne HO_4.out BK157.out (by decide))) | (show (Addr.add _ _).block ≠ _; rw [add_block]; exact Kd.own_blk (Kd.R_ne HO_4.out BK157.out (by decide))) | (dsimp only; exact Kd.own_blk (Kd.R_ne HO_4.out BK157.out (by decide)))) _).trans (((cell_far (p := ⟨gb157, _, none⟩) (by first | exact Kd.own_blk (Kd.R_ne HO_4.out BK157.out (by decide)) | (rw [add_block]; exact Kd.own_blk (Kd.R_ne HO_4.out BK157.out (by decide))) | (show (Addr.add _ _).block ≠ _; rw [add_block]; exact Kd.own_blk (Kd.R_ne HO_4.out BK157.out (by decide))) | (dsimp only; exact Kd.own_blk (Kd.R_ne HO_4.out BK157.out (by decide)))) _).trans (hHeld.2.2.2.1)))))))))))), ((cell_far (p := ⟨gb157, _, none⟩) (by first | exact Kd.own_blk (Kd.R_ne HO_4.out BK157.out (by decide)) | (rw [add_block]; exact Kd.own_blk (Kd.R_ne HO_4.out BK157.out (by decide))) | (show (Addr.add _ _).block ≠ _; rw [add_block]; exact Kd.own_blk (Kd.R_ne HO_4.out BK157.out (by decide))) | (dsimp only; exact Kd.own_blk (Kd.R_ne HO_4.out BK157.out (by decide)))) _).trans (((cell_far (p := ⟨gb157, _, none⟩) (by first | exact Kd.own_blk (Kd.R_ne HO_4.out BK157.out (by decide)) | (rw [add_block]; exact Kd.own_blk (Kd.R_ne HO_4.out BK157.out (by decide))) | (show (Addr.add _ _).block ≠ _; rw [add_block]; exact Kd.own_blk (Kd.R_ne HO_4.out BK157.out (by decide))) | (dsimp only; exact Kd.own_blk (Kd.R_ne HO_4.out BK157.out (by decide)))) _).trans (((cell_far (p := ⟨gb157, _, none⟩) (by first | exact Kd.own_blk (Kd.R_ne HO_4.out BK157.out (by decide)) | (rw [add_block]; exact Kd.own_blk (Kd.R_ne HO_4.out BK157.out (by decide))) | (show (Addr.add _ _).block ≠ _; rw [add_block]; exact Kd.own_blk (Kd.R_ne HO_4.out BK157.out (by decide))) | (dsimp only; exact Kd.own_blk (Kd.R_ne HO_4.out BK157.out (by decide)))) _).trans (((cell_far (p := ⟨gb157, _, none⟩) (by first | exact Kd.own_blk (Kd.R_ne HO_4.out BK157.out (by decide)) | (rw [add_block]; exact Kd.own_blk (Kd.R_ne HO_4.out BK157.out (by decide))) | (show (Addr.add _ _).block ≠ _; rw [add_block]; exact Kd.own_blk (Kd.R_ne HO_4.out BK157.out (by decide))) | (dsimp only; exact Kd.own_blk (Kd.R_ne HO_4.out BK157.out (by decide)))) _).trans (((cell_far (p := ⟨gb157, _, none⟩) (by first | exact Kd.own_blk (Kd.R_ne HO_4.out BK157.out (by decide)) | (rw [add_block]; exact Kd.own_blk (Kd.R_ne HO_4.out BK157.out (by decide))) | (show (Addr.add _ _).block ≠ _; rw [add_block]; exact Kd.own_blk (Kd.R_ne HO_4.out BK157.out (by decide))) | (dsimp only; exact Kd.own_blk (Kd.R_ne HO_4.out BK157.out (by decide)))) _).trans (((cell_far (p := ⟨gb157, _, none⟩) (by first | exact Kd.own_blk (Kd.R_ne HO_4.out BK157.out (by decide)) | (rw [add_block]; exact Kd.own_blk (Kd.R_ne HO_4.out BK157.out (by decide))) | (show (Addr.add _ _).block ≠ _; rw [add_block]; exact Kd.own_blk (Kd.R_ne HO_4.out BK157.out (by decide))) | (dsimp only; exact Kd.own_blk (Kd.R_ne HO_4.out BK157.out (by decide)))) _).trans (hHeld.2.2.2.2))))))))))))⟩ (fun hHeld => ?_)
             clear hK K
             refine done_ (done_of HT_.out (by kernel_rfl)) ?_
             have hnb47 := NB157_147.out
             have hnc47 := NB147_157.out
             have hcz48_0 := cz0_ BK157
             have hcz48_1 := cz1_ BK157
             have hcz48_2 := cz2_ BK157
             have hcz48_3 := cz3_ BK157
             have hcz48_4 := cz4_ BK157
             have hcz48_5 := cz5_ BK157
             have hfz48_0 := fz_ BK157 0
             have hfz48_1 := fz_ BK157 1
             have hfz48_2 := fz_ BK157 2
             have hfz48_3 := fz_ BK157 3
             have hfz48_4 := fz_ BK157 4
             have hfz48_5 := fz_ BK157 5
             try go_wp2_with (first | ((with_reducible refine gate_callee (f := 78) rfl ?_); refine goesL_ (some 54) rfl rfl Tryz.func78 (by kernel_rfl) rfl #[.agg #[.int .i64 (rd x4_2 0), .int .i64 (rd x4_2 1), .int .i64 (rd x4_2 2), .int .i64 (rd x4_2 3), .int .i64 (rd x4_2 4), .bool ((a0.size : Int) == 6)]] rfl args_ ?_; (with_reducible refine (spec_shGood.calls k2 (rd x4_2 0) (rd x4_2 1) (rd x4_2 2) (rd x4_2 3) (rd x4_2 4) ((a0.size : Int) == 6) false _ A22.out).mono ?_); rintro e w49 ⟨rfl, hb⟩; refine ⟨_, rfl, ?_⟩; have n0_ := Aside0.mk (Kd.R_below (rf_ (fm_ (fr_ (fr_ (fr_ (fr_ (fr_ (fr_ (ft_ HO_4 BK157) 0 (.int .i64 (rd x4_2 0))) 1 (.int .i64 (rd x4_2 1))) 2 (.int .i64 (rd x4_2 2))) 3 (.int .i64 (rd x4_2 3))) 4 (.int .i64 (rd x4_2 4))) 5 (.bool ((a0.size : Int) == 6))))) hb); have n1_ := Aside0.mk (blk_below (g := gb147) (o := .cells #[.int .i64 0, .int .i64 0, .int .i64 0, .int .i64 0, .int .i64 0, .bool false] 37 (0, 0)) (by (with_reducible repeat (first | apply lN_ | apply lD_ | apply lA_)); refine blk_far ?_ NB147_157.out _; (with_reducible repeat (first | apply lN_ | apply lD_ | apply lA_)); refine blk_far ?_ NB147_157.out _; (with_reducible repeat (first | apply lN_ | apply lD_ | apply lA_)); refine blk_far ?_ NB147_157.out _; (with_reducible repeat (first | apply lN_ | apply lD_ | apply lA_)); refine blk_far ?_ NB147_157.out _; (with_reducible repeat (first | apply lN_ | apply lD_ | apply lA_)); refine blk_far ?_ NB147_157.out _; (with_reducible repeat (first | apply lN_ | apply lD_ | apply lA_)); refine blk_far ?_ NB147_157.out _; (with_reducible repeat (first | apply lN_ | apply lD_ | apply lA_)); exact BK147.out) hb); have n2_ := Aside0.mk (blk_below (g := gb157) (o := .cells #[.int .i64 (rd x4_2 0), .int .i64 (rd x4_2 1), .int .i64 (rd x4_2 2), .int .i64 (rd x4_2 3), .int .i64 (rd x4_2 4), .bool ((a0.size : Int) == 6)] 37 (0, 0)) (by (with_reducible repeat (first | apply lN_ | apply lD_ | apply lA_)); refine blk_put (cs := #[.int .i64 (rd x4_2 0), .int .i64 (rd x4_2 1), .int .i64 (rd x4_2 2), .int .i64 (rd x4_2 3), .int .i64 (rd x4_2 4), .bool false]) ?_ 5 _ rfl; (with_reducible repeat (first | apply lN_ | apply lD_ | apply lA_)); refine blk_put (cs := #[.int .i64 (rd x4_2 0), .int .i64 (rd x4_2 1), .int .i64 (rd x4_2 2), .int .i64 (rd x4_2 3), .int .i64 0, .bool false]) ?_ 4 _ rfl; (with_reducible repeat (first | apply lN_ | apply lD_ | apply lA_)); refine blk_put (cs := #[.int .i64 (rd x4_2 0), .int .i64 (rd x4_2 1), .int .i64 (rd x4_2 2), .int .i64 0, .int .i64 0, .bool false]) ?_ 3 _ rfl; (with_reducible repeat (first | apply lN_ | apply lD_ | apply lA_)); refine blk_put (cs := #[.int .i64 (rd x4_2 0), .int .i64 (rd x4_2 1), .int .i64 0, .int .i64 0, .int .i64 0, .bool false]) ?_ 2 _ rfl; (with_reducible repeat (first | apply lN_ | apply lD_ | apply lA_)); refine blk_put (cs := #[.int .i64 (rd x4_2 0), .int .i64 0, .int .i64 0, .int .i64 0, .int .i64 0, .bool false]) ?_ 1 _ rfl; (with_reducible repeat (first | apply lN_ | apply lD_ | apply lA_)); refine blk_put (cs := #[.int .i64 0, .int .i64 0, .int .i64 0, .int .i64 0, .int .i64 0, .bool false]) ?_ 0 _ rfl; (with_reducible repeat (first | apply lN_ | apply lD_ | apply lA_)); exact BK157.out) hb); have n3_ := Aside0.mk (below_step (bb2_ HB GE147 GE157) hb); clear HO_4; clear BK147; clear BK157; clear HB; have HO_4 := n0_; have BK147 := n1_; have BK157 := n2_; have HB := n3_; clear n0_ n1_ n2_ n3_; (try clear hb); (try clear hb2); (try clear hk); (try clear hi); have hcz50_0 := cz0_ BK147; have hcz50_1 := cz1_ BK147; have hcz50_2 := cz2_ BK147; have hcz50_3 := cz3_ BK147; have hcz50_4 := cz4_ BK147; have hcz50_5 := cz5_ BK147; have hfz50_0 := fz_ BK147 0; have hfz50_1 := fz_ BK147 1; have hfz50_2 := fz_ BK147 2; have hfz50_3 := fz_ BK147 3; have hfz50_4 := fz_ BK147 4; have hfz50_5 := fz_ BK147 5))
             refine bodyPost_ret (results_ct rfl _ _ gb147 37 #[.int .i64 0, .int .i64 0, .int .i64 0, .int .i64 0, .int .i64 0, .bool false] (0, 0) _ rfl (by (with_reducible repeat (first | apply lN_ | apply lD_ | apply lA_)); refine blk_put (cs := #[.int .i64 0, .int .i64 0, .int .i64 0, .int .i64 0, .int .i64 0, .bool false]) ?_ 5 _ rfl; (with_reducible repeat (first | apply lN_ | apply lD_ | apply lA_)); refine blk_put (cs := #[.int .i64 0, .int .i64 0, .int .i64 0, .int .i64 0, .int .i64 0, .bool false]) ?_ 4 _ rfl; (with_reducible repeat (first | apply lN_ | apply lD_ | apply lA_)); refine blk_put (cs := #[.int .i64 0, .int .i64 0, .int .i64 0, .int .i64 0, .int .i64 0, .bool false]) ?_ 3 _ rfl; (with_reducible repeat (first | apply lN_ | apply lD_ | apply lA_)); refine blk_put (cs := #[.int .i64 0, .int .i64 0, .int .i64 0, .int .i64 0, .int .i64 0, .bool false]) ?_ 2 _ rfl; (with_reducible repeat (first | apply lN_ | apply lD_ | apply lA_)); refine blk_put (cs := #[.int .i64 0, .int .i64 0, .int .i64 0, .int .i64 0, .int .i64 0, .bool false]) ?_ 1 _ rfl; (with_reducible repeat (first | apply lN_ | apply lD_ | apply lA_)); refine blk_put (cs := #[.int .i64 0, .int .i64 0, .int .i64 0, .int .i64 0, .int .i64 0, .bool false]) ?_ 0 _ rfl; (with_reducible repeat (first | apply lN_ | apply lD_ | apply lA_)); exact BK147.out) Tryz.underlying37 rfl (by kernel_rfl)) rfl ?_
             exact ⟨by first | rfl | (simp [errW_none, errW_some] <;> rfl) | (simp [*, errW_none, errW_some] <;> rfl), bb2_ HB GE147 GE157⟩
           ·rw [if_neg c21] at H
            exact absurd H (by simp)
          ·rw [if_neg c20] at H
           exact absurd H (by simp)
         ·rw [if_neg c19] at H
          exact absurd H (by simp)
        ·rw [if_neg c18] at H
         exact absurd H (by simp)
       ·rw [if_neg c17] at H
        exact absurd H (by simp)

/-! ### spec_siPlain: function 82 -/
def spec_siPlain.l0 : Nat → List (S37) → List ByteArray → Int → Int → Option ((List (S37)))
 | 0, _, _, _, _ => none
 | k + 1, x1, x6, x7, x8 => if x8 < x7 then (if 0 ≤ x8 then (if x8 < (x6.length : Int) then ((spec_shParse.f k (rdOf ByteArray.empty x6 x8)).bind fun bt163 => (if x1.length < 2932031007402 then (spec_siPlain.l0 k (x1 ++ [(⟨bt163.1, bt163.2.1, bt163.2.2.1, bt163.2.2.2.1, bt163.2.2.2.2.1, bt163.2.2.2.2.2.1⟩ : S37)]) x6 x7 (wrap64 (x8 + 1))) else (none))) else (none)) else (none)) else (some x1)
def spec_siPlain.f (k : Nat)  : Option ((List (S37))) := (some (([(⟨#[48, 48, 48, 48, 48]⟩ : ByteArray), (⟨#[48, 48, 48, 48, 48, 115]⟩ : ByteArray), (⟨#[50, 50, 50, 50, 50]⟩ : ByteArray), (⟨#[49, 48, 48, 48, 48]⟩ : ByteArray), (⟨#[49, 48, 50, 50, 50]⟩ : ByteArray), (⟨#[48, 48, 50, 50, 50]⟩ : ByteArray)] : List ByteArray) : List ByteArray)).bind fun y159 => (spec_siPlain.l0 k ([] : List (S37)) y159 (y159.length : Int) 0)
theorem spec_siPlain.mono_l : ∀ k, (∀ y0 y1 y2 y3, LeO (spec_siPlain.l0 k y0 y1 y2 y3) (spec_siPlain.l0 (k + 1) y0 y1 y2 y3))
 | 0 => fun _ _ _ _ r h => by simp [spec_siPlain.l0] at h
 | k + 1 => by
  have ih0 := spec_siPlain.mono_l k
  ·intro y0 y1 y2 y3
   unfold spec_siPlain.l0
   repeat' first
   | (with_reducible exact ih0 _ _ _ _)
   | (with_reducible exact spec_shParse.mono _ _)
   | (with_reducible exact LeO.refl _)
   | (with_reducible exact LeO.none _)
   | (with_reducible refine LeO.ite ?_ ?_)
   | (with_reducible refine LeO.bind ?_ (fun _ => ?_))
   | exact ih0 _ _ _ _
   | exact LeO.none _
   | refine LeO.ite ?_ ?_
   | refine LeO.bind ?_ (fun _ => ?_)
theorem spec_siPlain.mono : ∀ k, LeO (spec_siPlain.f k ) (spec_siPlain.f (k + 1) ) := by
 intro  k
 have ih0 := spec_siPlain.mono_l k
 unfold spec_siPlain.f
 repeat' first
   | (with_reducible exact ih0 _ _ _ _)
   | (with_reducible exact spec_shParse.mono _ _)
   | (with_reducible exact LeO.refl _)
   | (with_reducible exact LeO.none _)
   | (with_reducible refine LeO.ite ?_ ?_)
   | (with_reducible refine LeO.bind ?_ (fun _ => ?_))
   | exact ih0 _ _ _ _
   | exact LeO.none _
   | refine LeO.ite ?_ ?_
   | refine LeO.bind ?_ (fun _ => ?_)
set_option maxHeartbeats 8000000 in
set_option maxRecDepth 100000 in
theorem spec_siPlain.calls (k : Nat)  (r : List (S37)) (w : World) (h : spec_siPlain.f k  = some r) :
  Calls Tryz.prog 82 #[] w fun e w' => ∃ v0_ : Value, e = .returned (v0_) ∧ Kd.R k37 37 w' w.heap.size (fun _ => True) v0_ r ∧ Below w.heap.size w w' := by
 have hu37 := Tryz.underlying37
 have HB := Aside0.mk (Below.refl w.heap.size w)
 have H : ((some (([(⟨#[48, 48, 48, 48, 48]⟩ : ByteArray), (⟨#[48, 48, 48, 48, 48, 115]⟩ : ByteArray), (⟨#[50, 50, 50, 50, 50]⟩ : ByteArray), (⟨#[49, 48, 48, 48, 48]⟩ : ByteArray), (⟨#[49, 48, 50, 50, 50]⟩ : ByteArray), (⟨#[48, 48, 50, 50, 50]⟩ : ByteArray)] : List ByteArray) : List ByteArray)).bind fun y159 => (spec_siPlain.l0 k ([] : List (S37)) y159 (y159.length : Int) 0)) = some r := h
 clear h
 obtain ⟨y159, hy159⟩ : ∃ y_ : List ByteArray, y_ = (([(⟨#[48, 48, 48, 48, 48]⟩ : ByteArray), (⟨#[48, 48, 48, 48, 48, 115]⟩ : ByteArray), (⟨#[50, 50, 50, 50, 50]⟩ : ByteArray), (⟨#[49, 48, 48, 48, 48]⟩ : ByteArray), (⟨#[49, 48, 50, 50, 50]⟩ : ByteArray), (⟨#[48, 48, 50, 50, 50]⟩ : ByteArray)] : List ByteArray)) := ⟨_, rfl⟩
 replace H : (spec_siPlain.l0 k ([] : List (S37)) y159 (y159.length : Int) 0) = some r := by first | (rw [hy159]; with_reducible exact H) | (have H2_ := (Option.bind_some _ _).symm.trans H; rw [hy159]; with_reducible exact H2_) | (have H2_ := (Option.bind_some _ _).symm.trans H; with_reducible exact H2_) | with_reducible exact H | (rw [hy159]; exact H) | exact H
 have Ny159 := Aside0.mk hy159
 clear hy159
 have H' := Aside0.mk H
 clear H
 go_enter Tryz.func82, Tryz.ntmps82
 go_wp2_with (first | ((with_reducible refine gate_dst (N := 6) rfl ?_); refine Kd.R_lit Kd.string _ 9 ?hg (N := 6) ?hd (xs := ([(⟨#[48, 48, 48, 48, 48]⟩ : ByteArray), (⟨#[48, 48, 48, 48, 48, 115]⟩ : ByteArray), (⟨#[50, 50, 50, 50, 50]⟩ : ByteArray), (⟨#[49, 48, 48, 48, 48]⟩ : ByteArray), (⟨#[49, 48, 50, 50, 50]⟩ : ByteArray), (⟨#[48, 48, 50, 50, 50]⟩ : ByteArray)] : List ByteArray)) (inner := [.string (⟨#[48, 48, 48, 48, 48]⟩ : ByteArray), .string (⟨#[48, 48, 48, 48, 48, 115]⟩ : ByteArray), .string (⟨#[50, 50, 50, 50, 50]⟩ : ByteArray), .string (⟨#[49, 48, 48, 48, 48]⟩ : ByteArray), .string (⟨#[49, 48, 50, 50, 50]⟩ : ByteArray), .string (⟨#[48, 48, 50, 50, 50]⟩ : ByteArray)]) (ok := fun _ => True) (okp := fun _ => True) ?hr ?hp (fun _ hk => hk) trivial (Below.refl _ _) (Nat.le_refl _) (by simp) ?_; (case hd => rfl); (case hg => rfl); (case hr => first | (go_simp; done) | (go_simp; rfl)); (case hp => exact (Reps.one (show Kd.M Kd.string _ _ _ (⟨#[48, 48, 48, 48, 48]⟩ : ByteArray) [.string (⟨#[48, 48, 48, 48, 48]⟩ : ByteArray)] from rfl) (Reps.one (show Kd.M Kd.string _ _ _ (⟨#[48, 48, 48, 48, 48, 115]⟩ : ByteArray) [.string (⟨#[48, 48, 48, 48, 48, 115]⟩ : ByteArray)] from rfl) (Reps.one (show Kd.M Kd.string _ _ _ (⟨#[50, 50, 50, 50, 50]⟩ : ByteArray) [.string (⟨#[50, 50, 50, 50, 50]⟩ : ByteArray)] from rfl) (Reps.one (show Kd.M Kd.string _ _ _ (⟨#[49, 48, 48, 48, 48]⟩ : ByteArray) [.string (⟨#[49, 48, 48, 48, 48]⟩ : ByteArray)] from rfl) (Reps.one (show Kd.M Kd.string _ _ _ (⟨#[49, 48, 50, 50, 50]⟩ : ByteArray) [.string (⟨#[49, 48, 50, 50, 50]⟩ : ByteArray)] from rfl) (Reps.one (show Kd.M Kd.string _ _ _ (⟨#[48, 48, 50, 50, 50]⟩ : ByteArray) [.string (⟨#[48, 48, 50, 50, 50]⟩ : ByteArray)] from rfl) (Reps.none _ _)))))))); intro v160 w1 ho2 hb hg_ hnew_; clear hg_ hnew_; (first | rw [← Ny159.out] at ho2 | (simp only [Int.reduceToNat] at ho2; rw [← Ny159.out] at ho2)); have n0_ := Aside0.mk (Kd.R_lower ho2 (bz_ HB)); have n1_ := Aside0.mk (bt_ HB hb); clear HB; have HO161 := n0_; have HB := n1_; clear n0_ n1_; clear hb ho2; obtain ⟨Ao3, co3, eo3⟩ := Kd.R_slice HO161.out; subst eo3))
 go_loopg [1, 8] k (fun kq v1 v8 w' => ∃ (x1_1 : List (S37)) (x8_1 : Int), v8 = .int .i64 x8_1 ∧ Aside0 (spec_siPlain.l0 kq x1_1 y159 (y159.length : Int) x8_1 = some r) ∧ Aside0 (kq ≤ k) ∧ Aside0 (Kd.R k37 37 w' w.heap.size (fun _ => True) v1 x1_1) ∧ Aside0 (Kd.R Kd.string 9 w' w.heap.size (fun _ => True) (.slice Ao3 y159.length co3) y159) ∧ Aside0 (Below w.heap.size w w'))
 case atStart => exact ⟨(([] : List (S37))), (0), (by first | rfl | (simp; done) | (simp [*]; done)), H', ⟨Nat.le_refl _⟩, ⟨by first | exact Kd.R_nil _ _ _ _ _ | exact Kd.N_nil _ _ _ _ _ | exact Kd.V_nil _ _ _ _ _ | exact Kd.Q_nil _ _ _ _ _ | exact Kd.S_nil _ _ _ _ _⟩, ⟨by (with_reducible repeat (first | apply rA_ | apply rN_ | apply rD_)); exact HO161.out⟩, ⟨bb_ HB⟩⟩
 case round =>
  clear H'
  try clear p2
  obtain ⟨x1_1, x8_1, rfl, HA, HK1, HO_1, HO_6, HB⟩ := hrel
  cases gk with
  | zero => exact absurd HA.out (by simp [spec_siPlain.l0])
  | succ k1 =>
   have H := HA.out
   clear HA
   simp only [spec_siPlain.l0] at H
   by_cases c4 : x8_1 < (y159.length : Int)
   ·rw [if_pos c4] at H
    have c4b0 : decide (x8_1 < (y159.length : Int)) = true := decide_eq_true c4
    clear c4
    by_cases c5 : 0 ≤ x8_1
    ·rw [if_pos c5] at H
     have c5b0 : decide (0 ≤ x8_1) = true := decide_eq_true c5
     clear c5
     by_cases c6 : x8_1 < (y159.length : Int)
     ·rw [if_pos c6] at H
      have c6b0 : decide (x8_1 < (y159.length : Int)) = true := decide_eq_true c6
      clear c6
      replace H := Option.bind_eq_some_iff.mp H
      obtain ⟨⟨t163, t164, t165, t166, t167, t168, t169⟩, A70, H⟩ := H
      try dsimp only at H
      have A7 := Aside0.mk A70
      clear A70
      by_cases c8 : x1_1.length < 2932031007402
      ·rw [if_pos c8] at H
       have LMc8 := Aside0.mk c8
       clear c8
       obtain ⟨y171, hy171⟩ : ∃ y_ : List (S37), y_ = (x1_1 ++ [(⟨t163, t164, t165, t166, t167, t168⟩ : S37)]) := ⟨_, rfl⟩
       replace H : (spec_siPlain.l0 k1 y171 y159 (y159.length : Int) (wrap64 (x8_1 + 1))) = some r := by first | (rw [hy171]; with_reducible exact H) | (have H2_ := (Option.bind_some _ _).symm.trans H; rw [hy171]; with_reducible exact H2_) | (have H2_ := (Option.bind_some _ _).symm.trans H; with_reducible exact H2_) | with_reducible exact H | (rw [hy171]; exact H) | exact H
       have Ny171 := Aside0.mk hy171
       clear hy171
       have H' := Aside0.mk H
       clear H
       have p162 : 0 ≤ (x8_1 : Int) := of_decide_eq_true as_
       have q162 : x8_1 < (y159.length : Int) := of_decide_eq_true as_
       obtain ⟨ad162, e162, hx162_0⟩ := Kd.at_string (Kd.R_reads' HO_6.out).2.2 x8_1 p162 q162
       cases e162
       replace p162 := eq_true p162
       replace q162 := eq_true q162
       go_wp2_with (first | ((with_reducible refine gate_callee (f := 119) rfl ?_); refine goesL_ (some 14) rfl rfl Tryz.func119 (by kernel_rfl) rfl #[.string (rdOf ByteArray.empty y159 x8_1)] rfl args_ ?_; (with_reducible refine (spec_shParse.calls k1 (rdOf ByteArray.empty y159 x8_1) t163 t164 t165 t166 t167 t168 t169 _ A7.out).mono ?_); rintro e w9 ⟨rfl, hb⟩; refine ⟨_, rfl, ?_⟩; have n0_ := Aside0.mk (Kd.R_below (ra_ HO_1) hb); have n1_ := Aside0.mk (Kd.R_below (ra_ HO_6) hb); have n2_ := Aside0.mk (bt_ HB hb); clear HO_1; clear HO_6; clear HB; have HO_1 := n0_; have HO_6 := n1_; have HB := n2_; clear n0_ n1_ n2_; (try clear hb); (try clear hb2); (try clear hk); (try clear hi)) | ((with_reducible refine gate_dst (N := 4) rfl ?_); refine box_event ?hg (N := 4) ?hd (cs := #[.int .i64 0, .int .i64 0, .int .i64 0, .int .i64 0, .int .i64 0, .bool false]) (t := 37) ?hr ?_; (case hd => rfl); (case hg => rfl); (case hr => first | (go_simp; done) | (go_simp; rfl)); intro gb170 hg w10 hbox hb; have n0_ := Aside0.mk (Kd.R_below (Kd.R_elderB (ra_ HO_1) gb170 (Nat.le_of_eq hg.symm)) hb); have n1_ := Aside0.mk (Kd.R_below (ra_ HO_6) hb); have n2_ := Aside0.mk (bt_ HB hb); have n3_ := Aside0.mk (hbox); have n4_ := gz_ hg HB; have n5_ := gz_ hg HB; clear HO_1; clear HO_6; clear HB; have HO_1 := n0_; have HO_6 := n1_; have HB := n2_; have BK170 := n3_; have GW170 := n4_; have GE170 := n5_; clear n0_ n1_ n2_ n3_ n4_ n5_; clear hb hbox hg; have hcz11_0 := cz0_ BK170; have hcz11_1 := cz1_ BK170; have hcz11_2 := cz2_ BK170; have hcz11_3 := cz3_ BK170; have hcz11_4 := cz4_ BK170; have hcz11_5 := cz5_ BK170; have hfz11_0 := fz_ BK170 0; have hfz11_1 := fz_ BK170 1; have hfz11_2 := fz_ BK170 2; have hfz11_3 := fz_ BK170 3; have hfz11_4 := fz_ BK170 4; have hfz11_5 := fz_ BK170 5) | ((with_reducible refine gate_builtin (b := .append) (xs := #[.tmp 17, .tmp 19]) rfl ?_); at_builtin; refine Kd.R_append k37 (w0 := w) w.heap.size rfl (.tmp 17) (.tmp 19) 106 37 (.agg #[(.int .i64 0), (.int .i64 0), (.int .i64 0), (.int .i64 0), (.int .i64 0), (.bool false)]) 48 rfl Tryz.underlying106 info37 rfl (by decide) (by omega) u1 x1_1 (⟨t163, t164, t165, t166, t167, t168⟩ : S37) [.int .i64 t163, .int .i64 t164, .int .i64 t165, .int .i64 t166, .int .i64 t167, .bool t168] (fun k_ => k_ ≠ gb170) (fun _ => False) rfl (by first | (go_simp; done) | (go_simp; rfl)) ?aP (fun _ hk => hk.elim) ?aF ?aO ?aB ?aS ?aL ?_; (case aP => exact k37_mkM _ _ _ (⟨t163, t164, t165, t166, t167, t168⟩ : S37)); (case aB => exact (bb1_ HB GE170)); (case aF => exact (fun k_ hk => Kd.freshB (g := gb170) (o := .cells #[.int .i64 t163, .int .i64 t164, .int .i64 t165, .int .i64 t166, .int .i64 t167, .bool t168] 37 (0, 0)) (by (with_reducible repeat (first | apply lN_ | apply lD_ | apply lA_)); refine blk_put (cs := #[.int .i64 t163, .int .i64 t164, .int .i64 t165, .int .i64 t166, .int .i64 t167, .bool false]) ?_ 5 _ rfl; (with_reducible repeat (first | apply lN_ | apply lD_ | apply lA_)); refine blk_put (cs := #[.int .i64 t163, .int .i64 t164, .int .i64 t165, .int .i64 t166, .int .i64 0, .bool false]) ?_ 4 _ rfl; (with_reducible repeat (first | apply lN_ | apply lD_ | apply lA_)); refine blk_put (cs := #[.int .i64 t163, .int .i64 t164, .int .i64 t165, .int .i64 0, .int .i64 0, .bool false]) ?_ 3 _ rfl; (with_reducible repeat (first | apply lN_ | apply lD_ | apply lA_)); refine blk_put (cs := #[.int .i64 t163, .int .i64 t164, .int .i64 0, .int .i64 0, .int .i64 0, .bool false]) ?_ 2 _ rfl; (with_reducible repeat (first | apply lN_ | apply lD_ | apply lA_)); refine blk_put (cs := #[.int .i64 t163, .int .i64 0, .int .i64 0, .int .i64 0, .int .i64 0, .bool false]) ?_ 1 _ rfl; (with_reducible repeat (first | apply lN_ | apply lD_ | apply lA_)); refine blk_put (cs := #[.int .i64 0, .int .i64 0, .int .i64 0, .int .i64 0, .int .i64 0, .bool false]) ?_ 0 _ rfl; (with_reducible repeat (first | apply lN_ | apply lD_ | apply lA_)); exact BK170.out) k_ hk)); (case aO => exact (by (with_reducible repeat (first | apply rA_ | apply rN_ | apply rD_)); exact Kd.R_mono (Kd.R_far (p := ⟨gb170, 5, none⟩) (Kd.R_far (p := ⟨gb170, 4, none⟩) (Kd.R_far (p := ⟨gb170, 3, none⟩) (Kd.R_far (p := ⟨gb170, 2, none⟩) (Kd.R_far (p := ⟨gb170, 1, none⟩) (Kd.R_far (p := ⟨gb170, 0, none⟩) (Kd.R_mono HO_1.out (fun k_ hk => (⟨hk, hk.2⟩ : _ ∧ k_ ≠ gb170))) (fun _ hk => hk.2) (.int .i64 t163)) (fun _ hk => hk.2) (.int .i64 t164)) (fun _ hk => hk.2) (.int .i64 t165)) (fun _ hk => hk.2) (.int .i64 t166)) (fun _ hk => hk.2) (.int .i64 t167)) (fun _ hk => hk.2) (.bool t168)) (fun _ hk => hk.1.2))); (case aS => exact (below_size (bb1_ HB GE170))); (case aL => have := LMc8.out; omega); intro v172 w12 ho hb hg hat; rw [← Ny171.out] at ho; have n0_ := Aside0.mk (Kd.R_over' (rf_ (fm_ (fr_ (fr_ (fr_ (fr_ (fr_ (fr_ (ft_ HO_6 BK170) 0 (.int .i64 t163)) 1 (.int .i64 t164)) 2 (.int .i64 t165)) 3 (.int .i64 t166)) 4 (.int .i64 t167)) 5 (.bool t168)))) (Kd.R_typed (by (with_reducible repeat (first | apply rA_ | apply rN_ | apply rD_)); exact (Kd.R_mono (Kd.R_far (p := ⟨gb170, 5, none⟩) (Kd.R_far (p := ⟨gb170, 4, none⟩) (Kd.R_far (p := ⟨gb170, 3, none⟩) (Kd.R_far (p := ⟨gb170, 2, none⟩) (Kd.R_far (p := ⟨gb170, 1, none⟩) (Kd.R_far (p := ⟨gb170, 0, none⟩) (Kd.R_mono HO_1.out (fun k_ hk => (⟨hk, hk.2⟩ : _ ∧ k_ ≠ gb170))) (fun _ hk => hk.2) (.int .i64 t163)) (fun _ hk => hk.2) (.int .i64 t164)) (fun _ hk => hk.2) (.int .i64 t165)) (fun _ hk => hk.2) (.int .i64 t166)) (fun _ hk => hk.2) (.int .i64 t167)) (fun _ hk => hk.2) (.bool t168)) (fun _ h_ => h_.1)))) (by decide) hg); have n1_ := Aside0.mk (blk_grown (g := gb170) (o := .cells #[.int .i64 t163, .int .i64 t164, .int .i64 t165, .int .i64 t166, .int .i64 t167, .bool t168] 37 (0, 0)) (by (with_reducible repeat (first | apply lN_ | apply lD_ | apply lA_)); refine blk_put (cs := #[.int .i64 t163, .int .i64 t164, .int .i64 t165, .int .i64 t166, .int .i64 t167, .bool false]) ?_ 5 _ rfl; (with_reducible repeat (first | apply lN_ | apply lD_ | apply lA_)); refine blk_put (cs := #[.int .i64 t163, .int .i64 t164, .int .i64 t165, .int .i64 t166, .int .i64 0, .bool false]) ?_ 4 _ rfl; (with_reducible repeat (first | apply lN_ | apply lD_ | apply lA_)); refine blk_put (cs := #[.int .i64 t163, .int .i64 t164, .int .i64 t165, .int .i64 0, .int .i64 0, .bool false]) ?_ 3 _ rfl; (with_reducible repeat (first | apply lN_ | apply lD_ | apply lA_)); refine blk_put (cs := #[.int .i64 t163, .int .i64 t164, .int .i64 0, .int .i64 0, .int .i64 0, .bool false]) ?_ 2 _ rfl; (with_reducible repeat (first | apply lN_ | apply lD_ | apply lA_)); refine blk_put (cs := #[.int .i64 t163, .int .i64 0, .int .i64 0, .int .i64 0, .int .i64 0, .bool false]) ?_ 1 _ rfl; (with_reducible repeat (first | apply lN_ | apply lD_ | apply lA_)); refine blk_put (cs := #[.int .i64 0, .int .i64 0, .int .i64 0, .int .i64 0, .int .i64 0, .bool false]) ?_ 0 _ rfl; (with_reducible repeat (first | apply lN_ | apply lD_ | apply lA_)); exact BK170.out) hg (Kd.R_away HO_1.out (fun _ hk => hk.2))); have n2_ := Aside0.mk (hb); have n3_ := Aside0.mk (ho); clear HO_6; clear BK170; clear HB; clear HO_1; have HO_6 := n0_; have BK170 := n1_; have HB := n2_; have HO173 := n3_; clear n0_ n1_ n2_ n3_; clear ho hb hg hat))
       go_roundg k1
       case measure => have := HK1.out; omega
       case rel => exact ⟨(y171), (wrap64 (x8_1 + 1)), (by first | rfl | (simp; done) | (simp [*]; done)), H', ⟨by have := HK1.out; omega⟩, ⟨by (with_reducible repeat (first | apply rA_ | apply rN_ | apply rD_)); exact Kd.R_mono HO173.out (fun _ hk => trivial)⟩, ⟨by (with_reducible repeat (first | apply rA_ | apply rN_ | apply rD_)); exact HO_6.out⟩, ⟨bb1_ HB GE170⟩⟩
      ·rw [if_neg c8] at H
       exact absurd H (by simp)
     ·rw [if_neg c6] at H
      exact absurd H (by simp)
    ·rw [if_neg c5] at H
     exact absurd H (by simp)
   ·rw [if_neg c4] at H
    have c4b0 : decide (x8_1 < (y159.length : Int)) = false := decide_eq_false c4
    clear c4
    obtain rfl := Option.some.inj H
    go_wp2
    go_ret
    exact ⟨_, by first | rfl | (simp [errW_none, errW_some] <;> rfl) | (simp [*, errW_none, errW_some] <;> rfl), by (with_reducible repeat (first | apply rA_ | apply rN_ | apply rD_)); exact HO_1.out, bb_ HB⟩

/-! ### spec_orSwap: function 120 -/
def spec_orSwap.f (a0 : Int) : Option (Int) := if a0 = 2 then ((spec_orOpposite.f a0).bind fun t174 => (some t174)) else (if a0 = 3 then ((spec_orOpposite.f a0).bind fun t175 => (some t175)) else (some a0))
set_option maxHeartbeats 8000000 in
set_option maxRecDepth 100000 in
theorem spec_orSwap.calls (a0 : Int) (r : Int) (w : World) (h : spec_orSwap.f a0 = some r) :
  Calls Tryz.prog 120 #[.int .i64 a0] w fun e w' => e = .returned (.int .i64 r) ∧ Drawn0 w w' := by
 have H : (if a0 = 2 then ((spec_orOpposite.f a0).bind fun t174 => (some t174)) else (if a0 = 3 then ((spec_orOpposite.f a0).bind fun t175 => (some t175)) else (some a0))) = some r := h
 clear h
 by_cases c2 : a0 = 2
 ·rw [if_pos c2] at H
  have c2b0 : (a0 == 2) = true := beq_iff_eq.mpr c2
  have c2b1 : (a0 != 2) = false := bne_eq_false_iff_eq.mpr c2
  clear c2
  replace H := Option.bind_eq_some_iff.mp H
  obtain ⟨t174, A30, H⟩ := H
  try dsimp only at H
  have A3 := Aside0.mk A30
  clear A30
  obtain rfl := Option.some.inj H
  go_enter Tryz.func120, Tryz.ntmps120
  go_wp2_with (first | ((with_reducible refine gate_callee (f := 117) rfl ?_); refine goesL_ (some 10) rfl rfl Tryz.func117 (by kernel_rfl) rfl #[.int .i64 a0] rfl args_ ?_; (with_reducible refine (spec_orOpposite.calls a0 t174 _ A3.out).mono ?_); rintro e w' ⟨rfl, ⟨nd, rfl⟩⟩; refine ⟨_, rfl, ?_⟩))
  go_ret
  exact ⟨by first | rfl | (simp; done) | (simp [*]; done), by repeat (first | exact Drawn0.refl _ | apply Drawn0.step)⟩
 ·rw [if_neg c2] at H
  have c2b0 : (a0 == 2) = false := beq_eq_false_iff_ne.mpr c2
  have c2b1 : (a0 != 2) = true := bne_iff_ne.mpr c2
  by_cases c4 : a0 = 3
  ·rw [if_pos c4] at H
   have c4b0 : (a0 == 3) = true := beq_iff_eq.mpr c4
   have c4b1 : (a0 != 3) = false := bne_eq_false_iff_eq.mpr c4
   clear c4
   replace H := Option.bind_eq_some_iff.mp H
   obtain ⟨t175, A50, H⟩ := H
   try dsimp only at H
   have A5 := Aside0.mk A50
   clear A50
   obtain rfl := Option.some.inj H
   go_enter Tryz.func120, Tryz.ntmps120
   go_wp2_with (first | ((with_reducible refine gate_callee (f := 117) rfl ?_); refine goesL_ (some 10) rfl rfl Tryz.func117 (by kernel_rfl) rfl #[.int .i64 a0] rfl args_ ?_; (with_reducible refine (spec_orOpposite.calls a0 t175 _ A5.out).mono ?_); rintro e w' ⟨rfl, ⟨nd, rfl⟩⟩; refine ⟨_, rfl, ?_⟩))
   go_ret
   exact ⟨by first | rfl | (simp; done) | (simp [*]; done), by repeat (first | exact Drawn0.refl _ | apply Drawn0.step)⟩
  ·rw [if_neg c4] at H
   have c4b0 : (a0 == 3) = false := beq_eq_false_iff_ne.mpr c4
   have c4b1 : (a0 != 3) = true := bne_iff_ne.mpr c4
   obtain rfl := Option.some.inj H
   go_enter Tryz.func120, Tryz.ntmps120
   go_wp2
   go_ret
   exact ⟨by first | rfl | (simp; done) | (simp [*]; done), by repeat (first | exact Drawn0.refl _ | apply Drawn0.step)⟩

/-! ### spec_orMirror: function 83 -/
def spec_orMirror.f (a0_0 : Int) (a0_1 : Int) : Option (Int × Int) := (spec_orSwap.f a0_0).bind fun t178 => ((spec_orSwap.f a0_1).bind fun t179 => (some (t178, t179)))
def spec_orMirror.T1 : Bool × List (List Nat × List Nat) := (true, [([], []), ([0], [0]), ([1], [1]), ([], []), ([3], [3]), ([4, 2], [4]), ([2, 5], [2, 5]), ([6, 5, 0, 1, 2, 3, 4, 5, 6], [6])])
def spec_orMirror.B1 : List Nat := [0, 1, 3, 0, 8, 31, 63, 127]
theorem spec_orMirror.tab1 : rtab .any (opsOf Tryz.f83 1) = spec_orMirror.T1 := by kernel_rfl
theorem spec_orMirror.bits1 : waitsOk spec_orMirror.T1.2 spec_orMirror.B1 = true := by kernel_rfl
set_option maxHeartbeats 8000000 in
set_option maxRecDepth 100000 in
theorem spec_orMirror.calls (a0_0 : Int) (a0_1 : Int) (r1 : Int) (r2 : Int) (w : World) (h : spec_orMirror.f a0_0 a0_1 = some (r1, r2)) :
  Calls Tryz.prog 83 #[.agg #[.int .i64 a0_0, .int .i64 a0_1]] w fun e w' => e = .returned (.agg #[.int .i64 r1, .int .i64 r2]) ∧ Below w.heap.size w w' := by
 have hu38 := Tryz.underlying38
 have HB := Aside0.mk (Below.refl w.heap.size w)
 have H : ((spec_orSwap.f a0_0).bind fun t178 => ((spec_orSwap.f a0_1).bind fun t179 => (some (t178, t179)))) = some (r1, r2) := h
 clear h
 replace H := Option.bind_eq_some_iff.mp H
 obtain ⟨t178, A20, H⟩ := H
 try dsimp only at H
 have A2 := Aside0.mk A20
 clear A20
 replace H := Option.bind_eq_some_iff.mp H
 obtain ⟨t179, A30, H⟩ := H
 try dsimp only at H
 have A3 := Aside0.mk A30
 clear A30
 simp only [Option.some.injEq, Prod.mk.injEq] at H
 obtain ⟨rfl, rfl⟩ := H
 go_enter Tryz.func83, Tryz.ntmps83
 try go_wp2_with (first | ((with_reducible refine gate_dst (N := 1) rfl ?_); refine box_event ?hg (N := 1) ?hd (cs := #[.int .i64 a0_0, .int .i64 a0_1]) (t := 38) ?hr ?_; (case hd => rfl); (case hg => rfl); (case hr => first | (go_simp; done) | (go_simp; rfl)); intro gb176 hg w4 hbox hb; have n0_ := Aside0.mk (bt_ HB hb); have n1_ := Aside0.mk (hbox); have n2_ := gz_ hg HB; have n3_ := gz_ hg HB; clear HB; have HB := n0_; have BK176 := n1_; have GW176 := n2_; have GE176 := n3_; clear n0_ n1_ n2_ n3_; clear hb hbox hg) | ((with_reducible refine gate_dst (N := 2) rfl ?_); refine box_event ?hg (N := 2) ?hd (cs := #[.int .i64 0, .int .i64 0]) (t := 38) ?hr ?_; (case hd => rfl); (case hg => rfl); (case hr => first | (go_simp; done) | (go_simp; rfl)); intro gb177 hg w5 hbox hb; have n0_ := Aside0.mk (lb_ BK176 hb); have n1_ := Aside0.mk (below_step (bb1_ HB GE176) hb); have n2_ := Aside0.mk (hbox); have n3_ := gy_ hg (bb1_ HB GE176); have n4_ := gy_ hg (bb1_ HB GE176); have n5_ := nl_ hg BK176; have n6_ := ng_ hg BK176; clear BK176; clear HB; have BK176 := n0_; have HB := n1_; have BK177 := n2_; have GW177 := n3_; have GE177 := n4_; have NB176_177 := n5_; have NB177_176 := n6_; clear n0_ n1_ n2_ n3_ n4_ n5_ n6_; clear hb hbox hg))
 have n0_ := Aside0.mk (blk_drew BK176.out)
 have n1_ := Aside0.mk (blk_drew BK177.out)
 have n2_ := Aside0.mk (below_drew1 HB.out)
 clear BK176
 clear BK177
 clear HB
 have BK176 := n0_
 have BK177 := n1_
 have HB := n2_
 clear n0_ n1_ n2_
 refine start_ (n := 8) (S := fun w' => w'.cell? ⟨gb176, 0, none⟩ = some (.int .i64 a0_0) ∧ w'.cell? ⟨gb176, 1, none⟩ = some (.int .i64 a0_1)) (ds := []) #[false, false, false, false, false, false, false, false] (by kernel_rfl) rfl rfl ⟨(blk_cell BK176.out 0).trans rfl, (blk_cell BK176.out 1).trans rfl⟩ (fun hHeld => ?_); refine with_tabW spec_orMirror.tab1 spec_orMirror.bits1 (fun HT_ HW_ => ?_)
 generalize w5.drew = w6 at BK176 BK177 HB hHeld ⊢
 refine pu2_ (i := 0) (N := some 3) #[true, false, false, false, false, false, false, false] rfl rfl ?_
 refine pu2_ (i := 3) (N := some 6) #[true, false, false, true, false, false, false, false] rfl rfl ?_
 refine tk2_ (i := 1) (N := some 4) #[true, true, false, true, false, false, false, false] rfl rfl hHeld ?_
 refine tk2_ (i := 4) (N := some 7) #[true, true, false, true, true, false, false, false] rfl rfl hHeld ?_
 refine one_ (i := 2) (N := some 5) #[true, true, true, true, true, false, false, false] rfl rfl (one_of HT_.out (by kernel_rfl)) (by decide) (fun K hK => ?_)
 refine goes_ Tryz.func120 (by kernel_rfl) rfl #[.int .i64 a0_0] (by rfl) rfl rfl args_ ?_
 with_reducible refine (spec_orSwap.calls a0_0 t178 _ A2.out).mono ?_
 rintro e w' ⟨rfl, ⟨nd, rfl⟩⟩
 refine ⟨_, rfl, ?_⟩
 refine hK.out _ _ ⟨(blk_cell BK176.out 0).trans rfl, (blk_cell BK176.out 1).trans rfl⟩ (fun hHeld => ?_)
 clear hK K
 refine nm2_ ?_
 refine one_ (i := 5) (N := some 8) #[true, true, true, true, true, true, false, false] rfl rfl (one_of HT_.out (by kernel_rfl)) (by decide) (fun K hK => ?_)
 refine goes_ Tryz.func120 (by kernel_rfl) rfl #[.int .i64 a0_1] (by rfl) rfl rfl args_ ?_
 with_reducible refine (spec_orSwap.calls a0_1 t179 _ A3.out).mono ?_
 rintro e w' ⟨rfl, ⟨nd, rfl⟩⟩
 refine ⟨_, rfl, ?_⟩
 refine hK.out _ _ ⟨(blk_cell BK176.out 0).trans rfl, (blk_cell BK176.out 1).trans rfl⟩ (fun hHeld => ?_)
 clear hK K
 refine nm2_ ?_
 refine pu2_ (i := 6) (N := some 9) #[true, true, true, true, true, true, true, false] rfl rfl ?_
 refine one_ (i := 7) (N := none) #[true, true, true, true, true, true, true, true] rfl rfl (one_of HT_.out (by kernel_rfl)) (by decide) (fun K hK => ?_)
 have hs7 := cz0_ BK177
 have hfs7 := fz_ BK177 0
 have hns7_0 := NB176_177.out
 have hms7_0 := NB177_176.out
 have hs8 := cz1_ BK177
 have hfs8 := fz_ BK177 1
 have hns8_0 := NB176_177.out
 have hms8_0 := NB177_176.out
 refine skip_ (w1 := ?_) (by rfl) rfl ?_ ?_
 rotate_left
 ·go_simp
  rfl
 refine hK.out _ _ ⟨((cell_far (p := ⟨gb177, _, none⟩) NB176_177.out _).trans (((cell_far (p := ⟨gb177, _, none⟩) NB176_177.out _).trans (hHeld.1)))), ((cell_far (p := ⟨gb177, _, none⟩) NB176_177.out _).trans (((cell_far (p := ⟨gb177, _, none⟩) NB176_177.out _).trans (hHeld.2))))⟩ (fun hHeld => ?_)
 clear hK K
 refine done_ (done_of HT_.out (by kernel_rfl)) ?_
 try go_wp2
 refine bodyPost_ret (results_cell_row rfl _ _ gb177 38 #[.int .i64 t178, .int .i64 t179] (0, 0) _ rfl (by (with_reducible repeat (first | apply lN_ | apply lD_ | apply lA_)); refine blk_put (cs := #[.int .i64 t178, .int .i64 0]) ?_ 1 _ rfl; (with_reducible repeat (first | apply lN_ | apply lD_ | apply lA_)); refine blk_put (cs := #[.int .i64 0, .int .i64 0]) ?_ 0 _ rfl; (with_reducible repeat (first | apply lN_ | apply lD_ | apply lA_)); exact BK177.out) Tryz.underlying38 rfl (by kernel_rfl)) rfl ?_
 exact ⟨by first | rfl | (simp [errW_none, errW_some] <;> rfl) | (simp [*, errW_none, errW_some] <;> rfl), bb2_ HB GE176 GE177⟩

end Go.Proofs.YtmbffgkejknfaaaGreatDoor.PA
