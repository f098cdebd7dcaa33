-- Written by a program of this session (wip/tools/myprint.py). Not trusted: Lean checks it.
import Derived.Test.YtadddkdfbmbagaaPAx0
import Derived.Test.YtadddkdfbmbagaaPAx1
namespace Go.Proofs.Ytadddkdfbmbagaa.PA
open Go.RowKit Go.Proofs.YtadddkdfbmbagaaW.PrintWords Go.Proofs.YtadddkdfbmbagaaW.PrintLast Go.Proofs.YtadddkdfbmbagaaW.PrintMore
attribute [local go_sem] max2_int min2_int max_two min_two max_three min_three max_four min_four   -- for this text's walks alone
set_option linter.unusedVariables false
set_option linter.unusedSimpArgs false

/-! ### spec_LongestStraight: function 7 -/
mutual
def spec_LongestStraight.j0 : Nat → Bool → ByteArray → Int → Option (ByteArray × Int × Bool)
 | 0, _, _, _ => none
 | k + 1, x17, x111000, x111001 => if x17 = true then (some ((⟨#[]⟩ : ByteArray), 0, false)) else ((spec_mvAll.f k x111000 x111001).bind fun t112 => (spec_LongestStraight.l0 k t112 (⟨#[]⟩ : ByteArray) 0 0 0))
def spec_LongestStraight.l0 : Nat → ByteArray → ByteArray → Int → Int → Int → Option (ByteArray × Int × Bool)
 | 0, _, _, _, _, _ => none
 | k + 1, x5, x6, x7, x8, x9 => if x9 < (x5.size : Int) then (if x9 > 0 then (if 0 ≤ x9 then (if 0 ≤ (wrap64 (x9 - 1)) then (if (wrap64 (x9 - 1)) < (x5.size : Int) then (spec_LongestStraight.j2 k x5 x6 x7 (wrap64 (x8 + 1)) x9 ((bt x5 x9) != (bt x5 (wrap64 (x9 - 1))))) else (none)) else (none)) else (none)) else (spec_LongestStraight.j2 k x5 x6 x7 (wrap64 (x8 + 1)) x9 false)) else (some (x6, x7, true))
def spec_LongestStraight.j2 : Nat → ByteArray → ByteArray → Int → Int → Int → Bool → Option (ByteArray × Int × Bool)
 | 0, _, _, _, _, _, _ => none
 | k + 1, x5, x6, x7, x8, x9, x39 => if x39 = true then (if 1 > x7 then (if 0 ≤ x9 then (if x9 ≤ (wrap64 (x9 + 1)) then (if (wrap64 (x9 + 1)) ≤ (x5.size : Int) then (spec_LongestStraight.l0 k x5 (x5.extract (x9 : Int).toNat ((wrap64 (x9 + 1)) : Int).toNat) 1 1 (wrap64 (x9 + 1))) else (none)) else (none)) else (none)) else (spec_LongestStraight.l0 k x5 x6 x7 1 (wrap64 (x9 + 1)))) else (if x8 > x7 then (if 0 ≤ x9 then (if x9 ≤ (wrap64 (x9 + 1)) then (if (wrap64 (x9 + 1)) ≤ (x5.size : Int) then (spec_LongestStraight.l0 k x5 (x5.extract (x9 : Int).toNat ((wrap64 (x9 + 1)) : Int).toNat) x8 x8 (wrap64 (x9 + 1))) else (none)) else (none)) else (none)) else (spec_LongestStraight.l0 k x5 x6 x7 x8 (wrap64 (x9 + 1))))
end
def spec_LongestStraight.f (k : Nat) (a0_0 : ByteArray) (a0_1 : Int) : Option (ByteArray × Int × Bool) := (spec_mvGood.f k a0_0 a0_1).bind fun t111 => (if t111 = true then (spec_LongestStraight.j0 k (a0_0.toList == ([] : List UInt8)) a0_0 a0_1) else (spec_LongestStraight.j0 k true a0_0 a0_1))
theorem spec_LongestStraight.mono_l : ∀ k, (∀ y0 y1 y2, LeO (spec_LongestStraight.j0 k y0 y1 y2) (spec_LongestStraight.j0 (k + 1) y0 y1 y2)) ∧ (∀ y0 y1 y2 y3 y4, LeO (spec_LongestStraight.l0 k y0 y1 y2 y3 y4) (spec_LongestStraight.l0 (k + 1) y0 y1 y2 y3 y4)) ∧ (∀ y0 y1 y2 y3 y4 y5, LeO (spec_LongestStraight.j2 k y0 y1 y2 y3 y4 y5) (spec_LongestStraight.j2 (k + 1) y0 y1 y2 y3 y4 y5))
 | 0 => ⟨fun _ _ _ r h => by simp [spec_LongestStraight.j0] at h, fun _ _ _ _ _ r h => by simp [spec_LongestStraight.l0] at h, fun _ _ _ _ _ _ r h => by simp [spec_LongestStraight.j2] at h⟩
 | k + 1 => by
  obtain ⟨ih0, ih1, ih2⟩ := spec_LongestStraight.mono_l k
  refine ⟨?_, ?_, ?_⟩
  ·intro y0 y1 y2
   unfold spec_LongestStraight.j0
   repeat' first
   | (with_reducible exact ih0 _ _ _)
   | (with_reducible exact ih1 _ _ _ _ _)
   | (with_reducible exact ih2 _ _ _ _ _ _)
   | (with_reducible exact spec_mvAll.mono _ _ _)
   | (with_reducible exact spec_mvGood.mono _ _ _)
   | (with_reducible exact LeO.refl _)
   | (with_reducible exact LeO.none _)
   | (with_reducible refine LeO.ite ?_ ?_)
   | (with_reducible refine LeO.bind ?_ (fun _ => ?_))
   | exact ih0 _ _ _
   | exact ih1 _ _ _ _ _
   | exact ih2 _ _ _ _ _ _
   | exact LeO.none _
   | refine LeO.ite ?_ ?_
   | refine LeO.bind ?_ (fun _ => ?_)
  ·intro y0 y1 y2 y3 y4
   unfold spec_LongestStraight.l0
   repeat' first
   | (with_reducible exact ih0 _ _ _)
   | (with_reducible exact ih1 _ _ _ _ _)
   | (with_reducible exact ih2 _ _ _ _ _ _)
   | (with_reducible exact spec_mvAll.mono _ _ _)
   | (with_reducible exact spec_mvGood.mono _ _ _)
   | (with_reducible exact LeO.refl _)
   | (with_reducible exact LeO.none _)
   | (with_reducible refine LeO.ite ?_ ?_)
   | (with_reducible refine LeO.bind ?_ (fun _ => ?_))
   | exact ih0 _ _ _
   | exact ih1 _ _ _ _ _
   | exact ih2 _ _ _ _ _ _
   | exact LeO.none _
   | refine LeO.ite ?_ ?_
   | refine LeO.bind ?_ (fun _ => ?_)
  ·intro y0 y1 y2 y3 y4 y5
   unfold spec_LongestStraight.j2
   repeat' first
   | (with_reducible exact ih0 _ _ _)
   | (with_reducible exact ih1 _ _ _ _ _)
   | (with_reducible exact ih2 _ _ _ _ _ _)
   | (with_reducible exact spec_mvAll.mono _ _ _)
   | (with_reducible exact spec_mvGood.mono _ _ _)
   | (with_reducible exact LeO.refl _)
   | (with_reducible exact LeO.none _)
   | (with_reducible refine LeO.ite ?_ ?_)
   | (with_reducible refine LeO.bind ?_ (fun _ => ?_))
   | exact ih0 _ _ _
   | exact ih1 _ _ _ _ _
   | exact ih2 _ _ _ _ _ _
   | exact LeO.none _
   | refine LeO.ite ?_ ?_
   | refine LeO.bind ?_ (fun _ => ?_)
theorem spec_LongestStraight.mono : ∀ a0 a1 k, LeO (spec_LongestStraight.f k a0 a1) (spec_LongestStraight.f (k + 1) a0 a1) := by
 intro a0 a1 k
 obtain ⟨ih0, ih1, ih2⟩ := spec_LongestStraight.mono_l k
 unfold spec_LongestStraight.f
 repeat' first
   | (with_reducible exact ih0 _ _ _)
   | (with_reducible exact ih1 _ _ _ _ _)
   | (with_reducible exact ih2 _ _ _ _ _ _)
   | (with_reducible exact spec_mvAll.mono _ _ _)
   | (with_reducible exact spec_mvGood.mono _ _ _)
   | (with_reducible exact LeO.refl _)
   | (with_reducible exact LeO.none _)
   | (with_reducible refine LeO.ite ?_ ?_)
   | (with_reducible refine LeO.bind ?_ (fun _ => ?_))
   | exact ih0 _ _ _
   | exact ih1 _ _ _ _ _
   | exact ih2 _ _ _ _ _ _
   | exact LeO.none _
   | refine LeO.ite ?_ ?_
   | refine LeO.bind ?_ (fun _ => ?_)
set_option maxHeartbeats 8000000 in
set_option maxRecDepth 100000 in
theorem spec_LongestStraight.calls (k : Nat) (a0_0 : ByteArray) (a0_1 : Int) (r1 : ByteArray) (r2 : Int) (r3 : Bool) (w : World) (h : spec_LongestStraight.f k a0_0 a0_1 = some (r1, r2, r3)) :
  Calls Try.prog 7 #[.agg #[.string a0_0, .int .i64 a0_1]] w fun e w' => e = .returned (.tuple #[.string r1, .int .i64 r2, .bool r3]) ∧ Below w.heap.size w w' := by
 have hu27 := Try.underlying27
 have HB := Aside0.mk (Below.refl w.heap.size w)
 have H : ((spec_mvGood.f k a0_0 a0_1).bind fun t111 => (if t111 = true then (spec_LongestStraight.j0 k (a0_0.toList == ([] : List UInt8)) a0_0 a0_1) else (spec_LongestStraight.j0 k true a0_0 a0_1))) = some (r1, r2, r3) := h
 clear h
 have HC2 := Aside0.mk H
 clear H
 go_enter Try.func7, Try.ntmps7
 go_upto_region 1 with (first | ((with_reducible refine gate_dst (N := 1) rfl ?_); refine box_event ?hg (N := 1) ?hd (cs := #[.string a0_0, .int .i64 a0_1]) (t := 27) ?hr ?_; (case hd => rfl); (case hg => rfl); (case hr => first | (go_simp; done) | (go_simp; rfl)); intro gb110 hg w3 hbox hb; have n0_ := Aside0.mk (bt_ HB hb); have n1_ := Aside0.mk (hbox); have n2_ := gz_ hg HB; have n3_ := gz_ hg HB; clear HB; have HB := n0_; have BK110 := n1_; have GW110 := n2_; have GE110 := n3_; clear n0_ n1_ n2_ n3_; clear hb hbox hg))
 repeat (go_quiet (first | ((with_reducible refine gate_dst (N := 1) rfl ?_); refine box_event ?hg (N := 1) ?hd (cs := #[.string a0_0, .int .i64 a0_1]) (t := 27) ?hr ?_; (case hd => rfl); (case hg => rfl); (case hr => first | (go_simp; done) | (go_simp; rfl)); intro gb110 hg w3 hbox hb; have n0_ := Aside0.mk (bt_ HB hb); have n1_ := Aside0.mk (hbox); have n2_ := gz_ hg HB; have n3_ := gz_ hg HB; clear HB; have HB := n0_; have BK110 := n1_; have GW110 := n2_; have GE110 := n3_; clear n0_ n1_ n2_ n3_; clear hb hbox hg)); go_upto_region 1 with (first | ((with_reducible refine gate_dst (N := 1) rfl ?_); refine box_event ?hg (N := 1) ?hd (cs := #[.string a0_0, .int .i64 a0_1]) (t := 27) ?hr ?_; (case hd => rfl); (case hg => rfl); (case hr => first | (go_simp; done) | (go_simp; rfl)); intro gb110 hg w3 hbox hb; have n0_ := Aside0.mk (bt_ HB hb); have n1_ := Aside0.mk (hbox); have n2_ := gz_ hg HB; have n3_ := gz_ hg HB; clear HB; have HB := n0_; have BK110 := n1_; have GW110 := n2_; have GE110 := n3_; clear n0_ n1_ n2_ n3_; clear hb hbox hg)))
 (try simp only [Act.put, sA_, sB_, sC_])
 go_cut [17] (fun v17 wc => ∃ (kq : Nat) (x17_1 : Bool), v17 = .bool x17_1 ∧ Aside0 (spec_LongestStraight.j0 kq x17_1 a0_0 a0_1 = some (r1, r2, r3)) ∧ Aside0 (kq ≤ k) ∧ Aside0 (wc.heap[gb110]? = some (.cells #[.string a0_0, .int .i64 a0_1] 27 (0, 0))) ∧ Aside0 (Below w.heap.size w wc))
 case first =>
  have H := HC2.out
  clear HC2
  replace H := Option.bind_eq_some_iff.mp H
  obtain ⟨t111, A40, H⟩ := H
  try dsimp only at H
  have A4 := Aside0.mk A40
  clear A40
  by_cases c5 : t111 = true
  ·subst c5
   have H1 : (spec_LongestStraight.j0 k (a0_0.toList == ([] : List UInt8)) a0_0 a0_1) = some (r1, r2, r3) := by rw [if_pos rfl] at H; exact H
   clear H
   have H := H1
   clear H1
   have H' := Aside0.mk H
   clear H
   have hcz6_0 := cz0_ BK110
   have hcz6_1 := cz1_ BK110
   have hfz6_0 := fz_ BK110 0
   have hfz6_1 := fz_ BK110 1
   go_wp2_with (first | (go_at_call 16; (with_reducible refine (spec_mvGood.calls k a0_0 a0_1 true _ A4.out).mono ?_); rintro e w7 ⟨rfl, hb⟩; have n0_ := Aside0.mk (lb_ BK110 hb); have n1_ := Aside0.mk (below_step (bb1_ HB GE110) hb); clear BK110; clear HB; have BK110 := n0_; have HB := n1_; clear n0_ n1_; (try clear hb); (try clear hb2); (try clear hk); (try clear hi); have hcz8_0 := cz0_ BK110; have hcz8_1 := cz1_ BK110; have hfz8_0 := fz_ BK110 0; have hfz8_1 := fz_ BK110 1))
   repeat (go_quiet (first | (go_at_call 16; (with_reducible refine (spec_mvGood.calls k a0_0 a0_1 true _ A4.out).mono ?_); rintro e w7 ⟨rfl, hb⟩; have n0_ := Aside0.mk (lb_ BK110 hb); have n1_ := Aside0.mk (below_step (bb1_ HB GE110) hb); clear BK110; clear HB; have BK110 := n0_; have HB := n1_; clear n0_ n1_; (try clear hb); (try clear hb2); (try clear hk); (try clear hi); have hcz8_0 := cz0_ BK110; have hcz8_1 := cz1_ BK110; have hfz8_0 := fz_ BK110 0; have hfz8_1 := fz_ BK110 1)); try go_wp2_with (first | (go_at_call 16; (with_reducible refine (spec_mvGood.calls k a0_0 a0_1 true _ A4.out).mono ?_); rintro e w7 ⟨rfl, hb⟩; have n0_ := Aside0.mk (lb_ BK110 hb); have n1_ := Aside0.mk (below_step (bb1_ HB GE110) hb); clear BK110; clear HB; have BK110 := n0_; have HB := n1_; clear n0_ n1_; (try clear hb); (try clear hb2); (try clear hk); (try clear hi); have hcz8_0 := cz0_ BK110; have hcz8_1 := cz1_ BK110; have hfz8_0 := fz_ BK110 0; have hfz8_1 := fz_ BK110 1)))
   go_meet
   case rel => exact ⟨_, ((a0_0.toList == ([] : List UInt8))), (by first | rfl | (simp; done) | (simp [*]; done)), H', ⟨by first | omega | exact Nat.le_refl _⟩, ⟨by (with_reducible repeat (first | apply lN_ | apply lD_ | apply lA_)); exact BK110.out⟩, ⟨bb1_ HB GE110⟩⟩
  ·replace c5 := Bool.eq_false_iff.mpr c5
   subst c5
   have H1 : (spec_LongestStraight.j0 k true a0_0 a0_1) = some (r1, r2, r3) := by rw [if_neg (show ¬ (false = true) by decide)] at H; exact H
   clear H
   have H := H1
   clear H1
   have H' := Aside0.mk H
   clear H
   have hcz9_0 := cz0_ BK110
   have hcz9_1 := cz1_ BK110
   have hfz9_0 := fz_ BK110 0
   have hfz9_1 := fz_ BK110 1
   go_wp2_with (first | (go_at_call 16; (with_reducible refine (spec_mvGood.calls k a0_0 a0_1 false _ A4.out).mono ?_); rintro e w10 ⟨rfl, hb⟩; have n0_ := Aside0.mk (lb_ BK110 hb); have n1_ := Aside0.mk (below_step (bb1_ HB GE110) hb); clear BK110; clear HB; have BK110 := n0_; have HB := n1_; clear n0_ n1_; (try clear hb); (try clear hb2); (try clear hk); (try clear hi)))
   repeat (go_quiet (first | (go_at_call 16; (with_reducible refine (spec_mvGood.calls k a0_0 a0_1 false _ A4.out).mono ?_); rintro e w10 ⟨rfl, hb⟩; have n0_ := Aside0.mk (lb_ BK110 hb); have n1_ := Aside0.mk (below_step (bb1_ HB GE110) hb); clear BK110; clear HB; have BK110 := n0_; have HB := n1_; clear n0_ n1_; (try clear hb); (try clear hb2); (try clear hk); (try clear hi))); try go_wp2_with (first | (go_at_call 16; (with_reducible refine (spec_mvGood.calls k a0_0 a0_1 false _ A4.out).mono ?_); rintro e w10 ⟨rfl, hb⟩; have n0_ := Aside0.mk (lb_ BK110 hb); have n1_ := Aside0.mk (below_step (bb1_ HB GE110) hb); clear BK110; clear HB; have BK110 := n0_; have HB := n1_; clear n0_ n1_; (try clear hb); (try clear hb2); (try clear hk); (try clear hi))))
   go_meet
   case rel => exact ⟨_, (true), (by first | rfl | (simp; done) | (simp [*]; done)), H', ⟨by first | omega | exact Nat.le_refl _⟩, ⟨by (with_reducible repeat (first | apply lN_ | apply lD_ | apply lA_)); exact BK110.out⟩, ⟨bb1_ HB GE110⟩⟩
 case rest =>
  clear HC2
  try clear p2
  try clear c5
  try clear c7
  try clear hcz6_0
  try clear hcz6_1
  try clear hcz8_0
  try clear hcz8_1
  try clear hcz9_0
  try clear hcz9_1
  try clear hfz6_0
  try clear hfz6_1
  try clear hfz8_0
  try clear hfz8_1
  try clear hfz9_0
  try clear hfz9_1
  obtain ⟨kq, x17_1, rfl, HA, HJ1, BK110, HB⟩ := hcut
  cases kq with
  | zero => exact absurd HA.out (by simp [spec_LongestStraight.j0])
  | succ kj1 =>
   have H := HA.out
   clear HA
   simp only [spec_LongestStraight.j0] at H
   by_cases c11 : x17_1 = true
   ·subst c11
    have H1 : (some ((⟨#[]⟩ : ByteArray), 0, false)) = some (r1, r2, r3) := by rw [if_pos rfl] at H; exact H
    clear H
    have H := H1
    clear H1
    simp only [Option.some.injEq, Prod.mk.injEq] at H
    obtain ⟨rfl, rfl, rfl⟩ := H
    go_wp2
    repeat (go_quiet (fail); try go_wp2)
    go_ret3
    exact ⟨by first | rfl | (simp [errW_none, errW_some] <;> rfl) | (simp [*, errW_none, errW_some] <;> rfl), bb1_ HB GE110⟩
   ·replace c11 := Bool.eq_false_iff.mpr c11
    subst c11
    have H1 : ((spec_mvAll.f kj1 a0_0 a0_1).bind fun t112 => (spec_LongestStraight.l0 kj1 t112 (⟨#[]⟩ : ByteArray) 0 0 0)) = some (r1, r2, r3) := by rw [if_neg (show ¬ (false = true) by decide)] at H; exact H
    clear H
    have H := H1
    clear H1
    replace H := Option.bind_eq_some_iff.mp H
    obtain ⟨t112, A120, H⟩ := H
    try dsimp only at H
    have A12 := Aside0.mk A120
    clear A120
    have H' := Aside0.mk H
    clear H
    have hcz13_0 := cz0_ BK110
    have hcz13_1 := cz1_ BK110
    have hfz13_0 := fz_ BK110 0
    have hfz13_1 := fz_ BK110 1
    go_wp2_with (first | (go_at_call 17; (with_reducible refine (spec_mvAll.calls kj1 a0_0 a0_1 t112 _ A12.out).mono ?_); rintro e w14 ⟨rfl, hb⟩; have n0_ := Aside0.mk (lb_ BK110 hb); have n1_ := Aside0.mk (below_step (bb1_ HB GE110) hb); clear BK110; clear HB; have BK110 := n0_; have HB := n1_; clear n0_ n1_; (try clear hb); (try clear hb2); (try clear hk); (try clear hi)))
    repeat (go_quiet (first | (go_at_call 17; (with_reducible refine (spec_mvAll.calls kj1 a0_0 a0_1 t112 _ A12.out).mono ?_); rintro e w14 ⟨rfl, hb⟩; have n0_ := Aside0.mk (lb_ BK110 hb); have n1_ := Aside0.mk (below_step (bb1_ HB GE110) hb); clear BK110; clear HB; have BK110 := n0_; have HB := n1_; clear n0_ n1_; (try clear hb); (try clear hb2); (try clear hk); (try clear hi))); try go_wp2_with (first | (go_at_call 17; (with_reducible refine (spec_mvAll.calls kj1 a0_0 a0_1 t112 _ A12.out).mono ?_); rintro e w14 ⟨rfl, hb⟩; have n0_ := Aside0.mk (lb_ BK110 hb); have n1_ := Aside0.mk (below_step (bb1_ HB GE110) hb); clear BK110; clear HB; have BK110 := n0_; have HB := n1_; clear n0_ n1_; (try clear hb); (try clear hb2); (try clear hk); (try clear hi))))
    go_loopg [6, 7, 8, 9] kj1 (fun kq v6 v7 v8 v9 w' => ∃ (x6_2 : ByteArray) (x7_2 : Int) (x8_2 : Int) (x9_2 : Int), v6 = .string x6_2 ∧ v7 = .int .i64 x7_2 ∧ v8 = .int .i64 x8_2 ∧ v9 = .int .i64 x9_2 ∧ Aside0 (spec_LongestStraight.l0 kq t112 x6_2 x7_2 x8_2 x9_2 = some (r1, r2, r3)) ∧ Aside0 (kq ≤ kj1) ∧ Aside0 (w'.heap[gb110]? = some (.cells #[.string a0_0, .int .i64 a0_1] 27 (0, 0))) ∧ Aside0 (Below w.heap.size w w'))
    case atStart => exact ⟨((⟨#[]⟩ : ByteArray)), (0), (0), (0), (by first | rfl | (simp; done) | (simp [*]; done)), (by first | rfl | (simp; done) | (simp [*]; done)), (by first | rfl | (simp; done) | (simp [*]; done)), (by first | rfl | (simp; done) | (simp [*]; done)), H', ⟨Nat.le_refl _⟩, ⟨by (with_reducible repeat (first | apply lN_ | apply lD_ | apply lA_)); exact BK110.out⟩, ⟨bb1_ HB GE110⟩⟩
    case round =>
     clear H'
     try clear c1
     try clear p2
     try clear c5
     try clear c7
     try clear c11
     try clear hcz13_0
     try clear hcz13_1
     try clear hcz6_0
     try clear hcz6_1
     try clear hcz8_0
     try clear hcz8_1
     try clear hcz9_0
     try clear hcz9_1
     try clear hfz13_0
     try clear hfz13_1
     try clear hfz6_0
     try clear hfz6_1
     try clear hfz8_0
     try clear hfz8_1
     try clear hfz9_0
     try clear hfz9_1
     try clear p2
     obtain ⟨x6_2, x7_2, x8_2, x9_2, rfl, rfl, rfl, rfl, HA, HK2, BK110, HB⟩ := hrel
     cases gk with
     | zero => exact absurd HA.out (by simp [spec_LongestStraight.l0])
     | succ k2 =>
      have H := HA.out
      clear HA
      simp only [spec_LongestStraight.l0] at H
      by_cases c15 : x9_2 < (t112.size : Int)
      ·rw [if_pos c15] at H
       have c15b0 : decide (x9_2 < (t112.size : Int)) = true := decide_eq_true c15
       clear c15
       have HC16 := Aside0.mk H
       clear H
       go_upto_region 8 with (fail)
       repeat (go_quiet (fail); go_upto_region 8 with (fail))
       go_cut [39] (fun v39 wc => ∃ (kq : Nat) (x39_15 : Bool), v39 = .bool x39_15 ∧ Aside0 (spec_LongestStraight.j2 kq t112 x6_2 x7_2 (wrap64 (x8_2 + 1)) x9_2 x39_15 = some (r1, r2, r3)) ∧ Aside0 (kq ≤ k2) ∧ Aside0 (wc.heap[gb110]? = some (.cells #[.string a0_0, .int .i64 a0_1] 27 (0, 0))) ∧ Aside0 (Below w.heap.size w wc))
       case first =>
        have H := HC16.out
        clear HC16
        by_cases c17 : x9_2 > 0
        ·rw [if_pos c17] at H
         have c17b0 : decide (0 < x9_2) = true := decide_eq_true c17
         clear c17
         (first | rw [c17b0] | (simp only [i64_w, i32_w]; rw [c17b0]) | skip)
         by_cases c18 : 0 ≤ x9_2
         ·rw [if_pos c18] at H
          have c18b0 : decide (0 ≤ x9_2) = true := decide_eq_true c18
          clear c18
          obtain ⟨ji20, hji20⟩ : ∃ j_ : Int, (wrap64 (x9_2 - 1)) = j_ := ⟨_, rfl⟩
          replace H : (if 0 ≤ (ji20) then (if (ji20) < (t112.size : Int) then (spec_LongestStraight.j2 k2 t112 x6_2 x7_2 (wrap64 (x8_2 + 1)) x9_2 ((bt t112 x9_2) != (bt t112 (ji20)))) else (none)) else (none)) = some (r1, r2, r3) := by first | (rw [hji20] at H; exact H) | (simp only [hji20] at H ⊢; exact H)
          have hji20w : (IntKind.i64.wrap (x9_2 - 1)) = ji20 := (i64_w _).trans hji20
          by_cases c21 : 0 ≤ (ji20)
          ·rw [if_pos c21] at H
           have c21b0 : decide (0 ≤ (ji20)) = true := decide_eq_true c21
           clear c21
           by_cases c22 : (ji20) < (t112.size : Int)
           ·rw [if_pos c22] at H
            have c22b0 : decide ((ji20) < (t112.size : Int)) = true := decide_eq_true c22
            clear c22
            have H' := Aside0.mk H
            clear H
            have p19 : 0 ≤ (x9_2 : Int) := of_decide_eq_true as_
            have q19 : x9_2 < (t112.size : Int) := of_decide_eq_true as_
            have hx19 := bt_at t112 x9_2
            replace p19 := eq_true p19
            replace q19 := eq_true q19
            have p23 : 0 ≤ ((ji20) : Int) := of_decide_eq_true as_
            have q23 : (ji20) < (t112.size : Int) := of_decide_eq_true as_
            have hx23 := bt_at t112 (ji20)
            replace p23 := eq_true p23
            replace q23 := eq_true q23
            go_wp2
            repeat (go_quiet (fail); try go_wp2)
            go_meet
            case rel => exact ⟨_, (((bt t112 x9_2) != (bt t112 (ji20)))), (by first | rfl | (simp; done) | (simp only [← hji20] <;> (first | rfl | simp)) | (simp [*]; done)), H', ⟨by have := HJ1.out; have := HK2.out; first | omega | exact Nat.le_refl _⟩, ⟨by (with_reducible repeat (first | apply lN_ | apply lD_ | apply lA_)); exact BK110.out⟩, ⟨bb1_ HB GE110⟩⟩
           ·rw [if_neg c22] at H
            exact absurd H (by simp)
          ·rw [if_neg c21] at H
           exact absurd H (by simp)
         ·rw [if_neg c18] at H
          exact absurd H (by simp)
        ·rw [if_neg c17] at H
         have c17b0 : decide (0 < x9_2) = false := decide_eq_false c17
         clear c17
         (first | rw [c17b0] | (simp only [i64_w, i32_w]; rw [c17b0]) | skip)
         have H' := Aside0.mk H
         clear H
         go_wp2
         repeat (go_quiet (fail); try go_wp2)
         go_meet
         case rel => exact ⟨_, (false), (by first | rfl | (simp; done) | (simp [*]; done)), H', ⟨by have := HJ1.out; have := HK2.out; first | omega | exact Nat.le_refl _⟩, ⟨by (with_reducible repeat (first | apply lN_ | apply lD_ | apply lA_)); exact BK110.out⟩, ⟨bb1_ HB GE110⟩⟩
       case rest =>
        clear HC16
        try clear c1
        try clear p1
        try clear q1
        try clear hx1
        try clear c2
        try clear p2
        try clear q2
        try clear hx2
        try clear c5
        try clear p6
        try clear c7
        try clear c11
        try clear c15
        try clear c15b0
        try clear c17
        try clear c17b0
        try clear c18
        try clear c18b0
        try clear p19
        try clear q19
        try clear hx19
        try clear c21
        try clear c21b0
        try clear c22
        try clear c22b0
        try clear p23
        try clear q23
        try clear hx23
        try clear hcz13_0
        try clear hcz13_1
        try clear hcz6_0
        try clear hcz6_1
        try clear hcz8_0
        try clear hcz8_1
        try clear hcz9_0
        try clear hcz9_1
        try clear hfz13_0
        try clear hfz13_1
        try clear hfz6_0
        try clear hfz6_1
        try clear hfz8_0
        try clear hfz8_1
        try clear hfz9_0
        try clear hfz9_1
        try clear p19
        try clear p2
        try clear p23
        try clear q19
        try clear q23
        obtain ⟨kq, x39_15, rfl, HA, HJ15, BK110, HB⟩ := hcut
        cases kq with
        | zero => exact absurd HA.out (by simp [spec_LongestStraight.j2])
        | succ kj15 =>
         have H := HA.out
         clear HA
         simp only [spec_LongestStraight.j2] at H
         by_cases c24 : x39_15 = true
         ·subst c24
          have H1 : (if 1 > x7_2 then (if 0 ≤ x9_2 then (if x9_2 ≤ (wrap64 (x9_2 + 1)) then (if (wrap64 (x9_2 + 1)) ≤ (t112.size : Int) then (spec_LongestStraight.l0 kj15 t112 (t112.extract (x9_2 : Int).toNat ((wrap64 (x9_2 + 1)) : Int).toNat) 1 1 (wrap64 (x9_2 + 1))) else (none)) else (none)) else (none)) else (spec_LongestStraight.l0 kj15 t112 x6_2 x7_2 1 (wrap64 (x9_2 + 1)))) = some (r1, r2, r3) := by rw [if_pos rfl] at H; exact H
          clear H
          have H := H1
          clear H1
          by_cases c25 : 1 > x7_2
          ·rw [if_pos c25] at H
           have c25b0 : decide (x7_2 < 1) = true := decide_eq_true c25
           clear c25
           by_cases c26 : 0 ≤ x9_2
           ·rw [if_pos c26] at H
            have c26b0 := eq_true c26
            have c26b1 : decide (0 ≤ x9_2) = true := decide_eq_true c26
            clear c26
            by_cases c27 : x9_2 ≤ (wrap64 (x9_2 + 1))
            ·rw [if_pos c27] at H
             have c27b0 := eq_true c27
             have c27b1 : decide (x9_2 ≤ (wrap64 (x9_2 + 1))) = true := decide_eq_true c27
             by_cases c28 : (wrap64 (x9_2 + 1)) ≤ (t112.size : Int)
             ·rw [if_pos c28] at H
              have c28b0 := eq_true c28
              have c28b1 : decide ((wrap64 (x9_2 + 1)) ≤ (t112.size : Int)) = true := decide_eq_true c28
              have H' := Aside0.mk H
              clear H
              go_wp2
              repeat (go_quiet (fail); try go_wp2)
              go_roundg kj15
              case measure => have := HJ1.out; have := HK2.out; have := HJ15.out; omega
              case rel => exact ⟨(t112.extract (x9_2 : Int).toNat ((wrap64 (x9_2 + 1)) : Int).toNat), (1), (1), (wrap64 (x9_2 + 1)), (by first | rfl | (simp; done) | (simp [*]; done)), (by first | rfl | (simp; done) | (simp [*]; done)), (by first | rfl | (simp; done) | (simp [*]; done)), (by first | rfl | (simp; done) | (simp [*]; done)), H', ⟨by have := HJ1.out; have := HK2.out; have := HJ15.out; omega⟩, ⟨by (with_reducible repeat (first | apply lN_ | apply lD_ | apply lA_)); exact BK110.out⟩, ⟨bb1_ HB GE110⟩⟩
             ·rw [if_neg c28] at H
              exact absurd H (by simp)
            ·rw [if_neg c27] at H
             exact absurd H (by simp)
           ·rw [if_neg c26] at H
            exact absurd H (by simp)
          ·rw [if_neg c25] at H
           have c25b0 : decide (x7_2 < 1) = false := decide_eq_false c25
           clear c25
           have H' := Aside0.mk H
           clear H
           go_wp2
           repeat (go_quiet (fail); try go_wp2)
           go_roundg kj15
           case measure => have := HJ1.out; have := HK2.out; have := HJ15.out; omega
           case rel => exact ⟨(x6_2), (x7_2), (1), (wrap64 (x9_2 + 1)), (by first | rfl | (simp; done) | (simp [*]; done)), (by first | rfl | (simp; done) | (simp [*]; done)), (by first | rfl | (simp; done) | (simp [*]; done)), (by first | rfl | (simp; done) | (simp [*]; done)), H', ⟨by have := HJ1.out; have := HK2.out; have := HJ15.out; omega⟩, ⟨by (with_reducible repeat (first | apply lN_ | apply lD_ | apply lA_)); exact BK110.out⟩, ⟨bb1_ HB GE110⟩⟩
         ·replace c24 := Bool.eq_false_iff.mpr c24
          subst c24
          have H1 : (if (wrap64 (x8_2 + 1)) > x7_2 then (if 0 ≤ x9_2 then (if x9_2 ≤ (wrap64 (x9_2 + 1)) then (if (wrap64 (x9_2 + 1)) ≤ (t112.size : Int) then (spec_LongestStraight.l0 kj15 t112 (t112.extract (x9_2 : Int).toNat ((wrap64 (x9_2 + 1)) : Int).toNat) (wrap64 (x8_2 + 1)) (wrap64 (x8_2 + 1)) (wrap64 (x9_2 + 1))) else (none)) else (none)) else (none)) else (spec_LongestStraight.l0 kj15 t112 x6_2 x7_2 (wrap64 (x8_2 + 1)) (wrap64 (x9_2 + 1)))) = some (r1, r2, r3) := by rw [if_neg (show ¬ (false = true) by decide)] at H; exact H
          clear H
          have H := H1
          clear H1
          by_cases c29 : (wrap64 (x8_2 + 1)) > x7_2
          ·rw [if_pos c29] at H
           have c29b0 : decide (x7_2 < (wrap64 (x8_2 + 1))) = true := decide_eq_true c29
           clear c29
           by_cases c30 : 0 ≤ x9_2
           ·rw [if_pos c30] at H
            have c30b0 := eq_true c30
            have c30b1 : decide (0 ≤ x9_2) = true := decide_eq_true c30
            clear c30
            by_cases c31 : x9_2 ≤ (wrap64 (x9_2 + 1))
            ·rw [if_pos c31] at H
             have c31b0 := eq_true c31
             have c31b1 : decide (x9_2 ≤ (wrap64 (x9_2 + 1))) = true := decide_eq_true c31
             by_cases c32 : (wrap64 (x9_2 + 1)) ≤ (t112.size : Int)
             ·rw [if_pos c32] at H
              have c32b0 := eq_true c32
              have c32b1 : decide ((wrap64 (x9_2 + 1)) ≤ (t112.size : Int)) = true := decide_eq_true c32
              have H' := Aside0.mk H
              clear H
              go_wp2
              repeat (go_quiet (fail); try go_wp2)
              go_roundg kj15
              case measure => have := HJ1.out; have := HK2.out; have := HJ15.out; omega
              case rel => exact ⟨(t112.extract (x9_2 : Int).toNat ((wrap64 (x9_2 + 1)) : Int).toNat), ((wrap64 (x8_2 + 1))), ((wrap64 (x8_2 + 1))), (wrap64 (x9_2 + 1)), (by first | rfl | (simp; done) | (simp [*]; done)), (by first | rfl | (simp; done) | (simp [*]; done)), (by first | rfl | (simp; done) | (simp [*]; done)), (by first | rfl | (simp; done) | (simp [*]; done)), H', ⟨by have := HJ1.out; have := HK2.out; have := HJ15.out; omega⟩, ⟨by (with_reducible repeat (first | apply lN_ | apply lD_ | apply lA_)); exact BK110.out⟩, ⟨bb1_ HB GE110⟩⟩
             ·rw [if_neg c32] at H
              exact absurd H (by simp)
            ·rw [if_neg c31] at H
             exact absurd H (by simp)
           ·rw [if_neg c30] at H
            exact absurd H (by simp)
          ·rw [if_neg c29] at H
           have c29b0 : decide (x7_2 < (wrap64 (x8_2 + 1))) = false := decide_eq_false c29
           clear c29
           have H' := Aside0.mk H
           clear H
           go_wp2
           repeat (go_quiet (fail); try go_wp2)
           go_roundg kj15
           case measure => have := HJ1.out; have := HK2.out; have := HJ15.out; omega
           case rel => exact ⟨(x6_2), (x7_2), ((wrap64 (x8_2 + 1))), (wrap64 (x9_2 + 1)), (by first | rfl | (simp; done) | (simp [*]; done)), (by first | rfl | (simp; done) | (simp [*]; done)), (by first | rfl | (simp; done) | (simp [*]; done)), (by first | rfl | (simp; done) | (simp [*]; done)), H', ⟨by have := HJ1.out; have := HK2.out; have := HJ15.out; omega⟩, ⟨by (with_reducible repeat (first | apply lN_ | apply lD_ | apply lA_)); exact BK110.out⟩, ⟨bb1_ HB GE110⟩⟩
      ·rw [if_neg c15] at H
       have c15b0 : decide (x9_2 < (t112.size : Int)) = false := decide_eq_false c15
       clear c15
       simp only [Option.some.injEq, Prod.mk.injEq] at H
       obtain ⟨rfl, rfl, rfl⟩ := H
       go_wp2
       repeat (go_quiet (fail); try go_wp2)
       go_ret3
       exact ⟨by first | rfl | (simp [errW_none, errW_some] <;> rfl) | (simp [*, errW_none, errW_some] <;> rfl), bb1_ HB GE110⟩

/-! ### impl_LongestStraight: function 9 -/
mutual
def impl_LongestStraight.j0 : Nat → Bool → ByteArray → Int → Option (ByteArray × Int × Bool)
 | 0, _, _, _ => none
 | k + 1, x17, x123000, x123001 => if x17 = true then (some ((⟨#[]⟩ : ByteArray), 0, false)) else ((impl_Move_all.f x123000 x123001).bind fun t124 => (impl_LongestStraight.l0 k t124 0 0 (t124.size : Int) 0))
def impl_LongestStraight.l0 : Nat → ByteArray → Int → Int → Int → Int → Option (ByteArray × Int × Bool)
 | 0, _, _, _, _, _ => none
 | k + 1, x5, x6, x7, x21, x22 => if x22 < x21 then (impl_LongestStraight.l1 k x5 x6 x7 x22 1 x21 x22) else (if 0 ≤ x6 then (if x6 ≤ (wrap64 (x6 + 1)) then (if (wrap64 (x6 + 1)) ≤ (x5.size : Int) then (some (x5.extract (x6 : Int).toNat ((wrap64 (x6 + 1)) : Int).toNat, x7, true)) else (none)) else (none)) else (none))
def impl_LongestStraight.l1 : Nat → ByteArray → Int → Int → Int → Int → Int → Int → Option (ByteArray × Int × Bool)
 | 0, _, _, _, _, _, _, _ => none
 | k + 1, x5, x6, x7, x8, x9, x21, x22 => if (wrap64 (x8 + x9)) < (x5.size : Int) then (if 0 ≤ (wrap64 (x8 + x9)) then (if 0 ≤ x8 then (if x8 < (x5.size : Int) then (if (bt x5 (wrap64 (x8 + x9))) = (bt x5 x8) then (impl_LongestStraight.l1 k x5 x6 x7 x8 (wrap64 (x9 + 1)) x21 x22) else (if x9 > x7 then (impl_LongestStraight.l0 k x5 x8 x9 x21 (wrap64 (x22 + 1))) else (impl_LongestStraight.l0 k x5 x6 x7 x21 (wrap64 (x22 + 1))))) else (none)) else (none)) else (none)) else (if x9 > x7 then (impl_LongestStraight.l0 k x5 x8 x9 x21 (wrap64 (x22 + 1))) else (impl_LongestStraight.l0 k x5 x6 x7 x21 (wrap64 (x22 + 1))))
end
def impl_LongestStraight.f (k : Nat) (a0_0 : ByteArray) (a0_1 : Int) : Option (ByteArray × Int × Bool) := (impl_IsMove.f k a0_0 a0_1).bind fun t123 => (if t123 = true then (impl_LongestStraight.j0 k (a0_0.toList == ([] : List UInt8)) a0_0 a0_1) else (impl_LongestStraight.j0 k true a0_0 a0_1))
theorem impl_LongestStraight.mono_l : ∀ k, (∀ y0 y1 y2, LeO (impl_LongestStraight.j0 k y0 y1 y2) (impl_LongestStraight.j0 (k + 1) y0 y1 y2)) ∧ (∀ y0 y1 y2 y3 y4, LeO (impl_LongestStraight.l0 k y0 y1 y2 y3 y4) (impl_LongestStraight.l0 (k + 1) y0 y1 y2 y3 y4)) ∧ (∀ y0 y1 y2 y3 y4 y5 y6, LeO (impl_LongestStraight.l1 k y0 y1 y2 y3 y4 y5 y6) (impl_LongestStraight.l1 (k + 1) y0 y1 y2 y3 y4 y5 y6))
 | 0 => ⟨fun _ _ _ r h => by simp [impl_LongestStraight.j0] at h, fun _ _ _ _ _ r h => by simp [impl_LongestStraight.l0] at h, fun _ _ _ _ _ _ _ r h => by simp [impl_LongestStraight.l1] at h⟩
 | k + 1 => by
  obtain ⟨ih0, ih1, ih2⟩ := impl_LongestStraight.mono_l k
  refine ⟨?_, ?_, ?_⟩
  ·intro y0 y1 y2
   unfold impl_LongestStraight.j0
   repeat' first
   | (with_reducible exact ih0 _ _ _)
   | (with_reducible exact ih1 _ _ _ _ _)
   | (with_reducible exact ih2 _ _ _ _ _ _ _)
   | (with_reducible exact impl_IsMove.mono _ _ _)
   | (with_reducible exact LeO.refl _)
   | (with_reducible exact LeO.none _)
   | (with_reducible refine LeO.ite ?_ ?_)
   | (with_reducible refine LeO.bind ?_ (fun _ => ?_))
   | exact ih0 _ _ _
   | exact ih1 _ _ _ _ _
   | exact ih2 _ _ _ _ _ _ _
   | exact LeO.none _
   | refine LeO.ite ?_ ?_
   | refine LeO.bind ?_ (fun _ => ?_)
  ·intro y0 y1 y2 y3 y4
   unfold impl_LongestStraight.l0
   repeat' first
   | (with_reducible exact ih0 _ _ _)
   | (with_reducible exact ih1 _ _ _ _ _)
   | (with_reducible exact ih2 _ _ _ _ _ _ _)
   | (with_reducible exact impl_IsMove.mono _ _ _)
   | (with_reducible exact LeO.refl _)
   | (with_reducible exact LeO.none _)
   | (with_reducible refine LeO.ite ?_ ?_)
   | (with_reducible refine LeO.bind ?_ (fun _ => ?_))
   | exact ih0 _ _ _
   | exact ih1 _ _ _ _ _
   | exact ih2 _ _ _ _ _ _ _
   | exact LeO.none _
   | refine LeO.ite ?_ ?_
   | refine LeO.bind ?_ (fun _ => ?_)
  ·intro y0 y1 y2 y3 y4 y5 y6
   unfold impl_LongestStraight.l1
   repeat' first
   | (with_reducible exact ih0 _ _ _)
   | (with_reducible exact ih1 _ _ _ _ _)
   | (with_reducible exact ih2 _ _ _ _ _ _ _)
   | (with_reducible exact impl_IsMove.mono _ _ _)
   | (with_reducible exact LeO.refl _)
   | (with_reducible exact LeO.none _)
   | (with_reducible refine LeO.ite ?_ ?_)
   | (with_reducible refine LeO.bind ?_ (fun _ => ?_))
   | exact ih0 _ _ _
   | exact ih1 _ _ _ _ _
   | exact ih2 _ _ _ _ _ _ _
   | exact LeO.none _
   | refine LeO.ite ?_ ?_
   | refine LeO.bind ?_ (fun _ => ?_)
theorem impl_LongestStraight.mono : ∀ a0 a1 k, LeO (impl_LongestStraight.f k a0 a1) (impl_LongestStraight.f (k + 1) a0 a1) := by
 intro a0 a1 k
 obtain ⟨ih0, ih1, ih2⟩ := impl_LongestStraight.mono_l k
 unfold impl_LongestStraight.f
 repeat' first
   | (with_reducible exact ih0 _ _ _)
   | (with_reducible exact ih1 _ _ _ _ _)
   | (with_reducible exact ih2 _ _ _ _ _ _ _)
   | (with_reducible exact impl_IsMove.mono _ _ _)
   | (with_reducible exact LeO.refl _)
   | (with_reducible exact LeO.none _)
   | (with_reducible refine LeO.ite ?_ ?_)
   | (with_reducible refine LeO.bind ?_ (fun _ => ?_))
   | exact ih0 _ _ _
   | exact ih1 _ _ _ _ _
   | exact ih2 _ _ _ _ _ _ _
   | exact LeO.none _
   | refine LeO.ite ?_ ?_
   | refine LeO.bind ?_ (fun _ => ?_)
set_option maxHeartbeats 8000000 in
set_option maxRecDepth 100000 in
theorem impl_LongestStraight.calls (k : Nat) (a0_0 : ByteArray) (a0_1 : Int) (r1 : ByteArray) (r2 : Int) (r3 : Bool) (w : World) (h : impl_LongestStraight.f k a0_0 a0_1 = some (r1, r2, r3)) :
  Calls Try.prog 9 #[.agg #[.string a0_0, .int .i64 a0_1]] w fun e w' => e = .returned (.tuple #[.string r1, .int .i64 r2, .bool r3]) ∧ Below w.heap.size w w' := by
 have hu27 := Try.underlying27
 have HB := Aside0.mk (Below.refl w.heap.size w)
 have H : ((impl_IsMove.f k a0_0 a0_1).bind fun t123 => (if t123 = true then (impl_LongestStraight.j0 k (a0_0.toList == ([] : List UInt8)) a0_0 a0_1) else (impl_LongestStraight.j0 k true a0_0 a0_1))) = some (r1, r2, r3) := h
 clear h
 have HC2 := Aside0.mk H
 clear H
 go_enter Try.func9, Try.ntmps9
 go_upto_region 1 with (first | ((with_reducible refine gate_dst (N := 1) rfl ?_); refine box_event ?hg (N := 1) ?hd (cs := #[.string a0_0, .int .i64 a0_1]) (t := 27) ?hr ?_; (case hd => rfl); (case hg => rfl); (case hr => first | (go_simp; done) | (go_simp; rfl)); intro gb122 hg w3 hbox hb; have n0_ := Aside0.mk (bt_ HB hb); have n1_ := Aside0.mk (hbox); have n2_ := gz_ hg HB; have n3_ := gz_ hg HB; clear HB; have HB := n0_; have BK122 := n1_; have GW122 := n2_; have GE122 := n3_; clear n0_ n1_ n2_ n3_; clear hb hbox hg))
 repeat (go_quiet (first | ((with_reducible refine gate_dst (N := 1) rfl ?_); refine box_event ?hg (N := 1) ?hd (cs := #[.string a0_0, .int .i64 a0_1]) (t := 27) ?hr ?_; (case hd => rfl); (case hg => rfl); (case hr => first | (go_simp; done) | (go_simp; rfl)); intro gb122 hg w3 hbox hb; have n0_ := Aside0.mk (bt_ HB hb); have n1_ := Aside0.mk (hbox); have n2_ := gz_ hg HB; have n3_ := gz_ hg HB; clear HB; have HB := n0_; have BK122 := n1_; have GW122 := n2_; have GE122 := n3_; clear n0_ n1_ n2_ n3_; clear hb hbox hg)); go_upto_region 1 with (first | ((with_reducible refine gate_dst (N := 1) rfl ?_); refine box_event ?hg (N := 1) ?hd (cs := #[.string a0_0, .int .i64 a0_1]) (t := 27) ?hr ?_; (case hd => rfl); (case hg => rfl); (case hr => first | (go_simp; done) | (go_simp; rfl)); intro gb122 hg w3 hbox hb; have n0_ := Aside0.mk (bt_ HB hb); have n1_ := Aside0.mk (hbox); have n2_ := gz_ hg HB; have n3_ := gz_ hg HB; clear HB; have HB := n0_; have BK122 := n1_; have GW122 := n2_; have GE122 := n3_; clear n0_ n1_ n2_ n3_; clear hb hbox hg)))
 (try simp only [Act.put, sA_, sB_, sC_])
 go_cut [17] (fun v17 wc => ∃ (kq : Nat) (x17_1 : Bool), v17 = .bool x17_1 ∧ Aside0 (impl_LongestStraight.j0 kq x17_1 a0_0 a0_1 = some (r1, r2, r3)) ∧ Aside0 (kq ≤ k) ∧ Aside0 (wc.heap[gb122]? = some (.cells #[.string a0_0, .int .i64 a0_1] 27 (0, 0))) ∧ Aside0 (Below w.heap.size w wc))
 case first =>
  have H := HC2.out
  clear HC2
  replace H := Option.bind_eq_some_iff.mp H
  obtain ⟨t123, A40, H⟩ := H
  try dsimp only at H
  have A4 := Aside0.mk A40
  clear A40
  by_cases c5 : t123 = true
  ·subst c5
   have H1 : (impl_LongestStraight.j0 k (a0_0.toList == ([] : List UInt8)) a0_0 a0_1) = some (r1, r2, r3) := by rw [if_pos rfl] at H; exact H
   clear H
   have H := H1
   clear H1
   have H' := Aside0.mk H
   clear H
   have hcz6_0 := cz0_ BK122
   have hcz6_1 := cz1_ BK122
   have hfz6_0 := fz_ BK122 0
   have hfz6_1 := fz_ BK122 1
   go_wp2_with (first | (go_at_call 18; (with_reducible refine (impl_IsMove.calls k a0_0 a0_1 true _ A4.out).mono ?_); rintro e w7 ⟨rfl, hb⟩; have n0_ := Aside0.mk (lb_ BK122 hb); have n1_ := Aside0.mk (below_step (bb1_ HB GE122) hb); clear BK122; clear HB; have BK122 := n0_; have HB := n1_; clear n0_ n1_; (try clear hb); (try clear hb2); (try clear hk); (try clear hi); have hcz8_0 := cz0_ BK122; have hcz8_1 := cz1_ BK122; have hfz8_0 := fz_ BK122 0; have hfz8_1 := fz_ BK122 1))
   repeat (go_quiet (first | (go_at_call 18; (with_reducible refine (impl_IsMove.calls k a0_0 a0_1 true _ A4.out).mono ?_); rintro e w7 ⟨rfl, hb⟩; have n0_ := Aside0.mk (lb_ BK122 hb); have n1_ := Aside0.mk (below_step (bb1_ HB GE122) hb); clear BK122; clear HB; have BK122 := n0_; have HB := n1_; clear n0_ n1_; (try clear hb); (try clear hb2); (try clear hk); (try clear hi); have hcz8_0 := cz0_ BK122; have hcz8_1 := cz1_ BK122; have hfz8_0 := fz_ BK122 0; have hfz8_1 := fz_ BK122 1)); try go_wp2_with (first | (go_at_call 18; (with_reducible refine (impl_IsMove.calls k a0_0 a0_1 true _ A4.out).mono ?_); rintro e w7 ⟨rfl, hb⟩; have n0_ := Aside0.mk (lb_ BK122 hb); have n1_ := Aside0.mk (below_step (bb1_ HB GE122) hb); clear BK122; clear HB; have BK122 := n0_; have HB := n1_; clear n0_ n1_; (try clear hb); (try clear hb2); (try clear hk); (try clear hi); have hcz8_0 := cz0_ BK122; have hcz8_1 := cz1_ BK122; have hfz8_0 := fz_ BK122 0; have hfz8_1 := fz_ BK122 1)))
   go_meet
   case rel => exact ⟨_, ((a0_0.toList == ([] : List UInt8))), (by first | rfl | (simp; done) | (simp [*]; done)), H', ⟨by first | omega | exact Nat.le_refl _⟩, ⟨by (with_reducible repeat (first | apply lN_ | apply lD_ | apply lA_)); exact BK122.out⟩, ⟨bb1_ HB GE122⟩⟩
  ·replace c5 := Bool.eq_false_iff.mpr c5
   subst c5
   have H1 : (impl_LongestStraight.j0 k true a0_0 a0_1) = some (r1, r2, r3) := by rw [if_neg (show ¬ (false = true) by decide)] at H; exact H
   clear H
   have H := H1
   clear H1
   have H' := Aside0.mk H
   clear H
   have hcz9_0 := cz0_ BK122
   have hcz9_1 := cz1_ BK122
   have hfz9_0 := fz_ BK122 0
   have hfz9_1 := fz_ BK122 1
   go_wp2_with (first | (go_at_call 18; (with_reducible refine (impl_IsMove.calls k a0_0 a0_1 false _ A4.out).mono ?_); rintro e w10 ⟨rfl, hb⟩; have n0_ := Aside0.mk (lb_ BK122 hb); have n1_ := Aside0.mk (below_step (bb1_ HB GE122) hb); clear BK122; clear HB; have BK122 := n0_; have HB := n1_; clear n0_ n1_; (try clear hb); (try clear hb2); (try clear hk); (try clear hi)))
   repeat (go_quiet (first | (go_at_call 18; (with_reducible refine (impl_IsMove.calls k a0_0 a0_1 false _ A4.out).mono ?_); rintro e w10 ⟨rfl, hb⟩; have n0_ := Aside0.mk (lb_ BK122 hb); have n1_ := Aside0.mk (below_step (bb1_ HB GE122) hb); clear BK122; clear HB; have BK122 := n0_; have HB := n1_; clear n0_ n1_; (try clear hb); (try clear hb2); (try clear hk); (try clear hi))); try go_wp2_with (first | (go_at_call 18; (with_reducible refine (impl_IsMove.calls k a0_0 a0_1 false _ A4.out).mono ?_); rintro e w10 ⟨rfl, hb⟩; have n0_ := Aside0.mk (lb_ BK122 hb); have n1_ := Aside0.mk (below_step (bb1_ HB GE122) hb); clear BK122; clear HB; have BK122 := n0_; have HB := n1_; clear n0_ n1_; (try clear hb); (try clear hb2); (try clear hk); (try clear hi))))
   go_meet
   case rel => exact ⟨_, (true), (by first | rfl | (simp; done) | (simp [*]; done)), H', ⟨by first | omega | exact Nat.le_refl _⟩, ⟨by (with_reducible repeat (first | apply lN_ | apply lD_ | apply lA_)); exact BK122.out⟩, ⟨bb1_ HB GE122⟩⟩
 case rest =>
  clear HC2
  try clear p2
  try clear c5
  try clear c9
  try clear hcz6_0
  try clear hcz6_1
  try clear hcz8_0
  try clear hcz8_1
  try clear hcz9_0
  try clear hcz9_1
  try clear hfz6_0
  try clear hfz6_1
  try clear hfz8_0
  try clear hfz8_1
  try clear hfz9_0
  try clear hfz9_1
  obtain ⟨kq, x17_1, rfl, HA, HJ1, BK122, HB⟩ := hcut
  cases kq with
  | zero => exact absurd HA.out (by simp [impl_LongestStraight.j0])
  | succ kj1 =>
   have H := HA.out
   clear HA
   simp only [impl_LongestStraight.j0] at H
   by_cases c11 : x17_1 = true
   ·subst c11
    have H1 : (some ((⟨#[]⟩ : ByteArray), 0, false)) = some (r1, r2, r3) := by rw [if_pos rfl] at H; exact H
    clear H
    have H := H1
    clear H1
    simp only [Option.some.injEq, Prod.mk.injEq] at H
    obtain ⟨rfl, rfl, rfl⟩ := H
    go_wp2
    repeat (go_quiet (fail); try go_wp2)
    go_ret3
    exact ⟨by first | rfl | (simp [errW_none, errW_some] <;> rfl) | (simp [*, errW_none, errW_some] <;> rfl), bb1_ HB GE122⟩
   ·replace c11 := Bool.eq_false_iff.mpr c11
    subst c11
    have H1 : ((impl_Move_all.f a0_0 a0_1).bind fun t124 => (impl_LongestStraight.l0 kj1 t124 0 0 (t124.size : Int) 0)) = some (r1, r2, r3) := by rw [if_neg (show ¬ (false = true) by decide)] at H; exact H
    clear H
    have H := H1
    clear H1
    replace H := Option.bind_eq_some_iff.mp H
    obtain ⟨t124, A120, H⟩ := H
    try dsimp only at H
    have A12 := Aside0.mk A120
    clear A120
    have H' := Aside0.mk H
    clear H
    have hcz13_0 := cz0_ BK122
    have hcz13_1 := cz1_ BK122
    have hfz13_0 := fz_ BK122 0
    have hfz13_1 := fz_ BK122 1
    go_wp2_with (first | (go_at_call 19; (with_reducible refine (impl_Move_all.calls a0_0 a0_1 t124 _ A12.out).mono ?_); rintro e w14 ⟨rfl, hb⟩; have n0_ := Aside0.mk (lb_ BK122 hb); have n1_ := Aside0.mk (below_step (bb1_ HB GE122) hb); clear BK122; clear HB; have BK122 := n0_; have HB := n1_; clear n0_ n1_; (try clear hb); (try clear hb2); (try clear hk); (try clear hi)))
    repeat (go_quiet (first | (go_at_call 19; (with_reducible refine (impl_Move_all.calls a0_0 a0_1 t124 _ A12.out).mono ?_); rintro e w14 ⟨rfl, hb⟩; have n0_ := Aside0.mk (lb_ BK122 hb); have n1_ := Aside0.mk (below_step (bb1_ HB GE122) hb); clear BK122; clear HB; have BK122 := n0_; have HB := n1_; clear n0_ n1_; (try clear hb); (try clear hb2); (try clear hk); (try clear hi))); try go_wp2_with (first | (go_at_call 19; (with_reducible refine (impl_Move_all.calls a0_0 a0_1 t124 _ A12.out).mono ?_); rintro e w14 ⟨rfl, hb⟩; have n0_ := Aside0.mk (lb_ BK122 hb); have n1_ := Aside0.mk (below_step (bb1_ HB GE122) hb); clear BK122; clear HB; have BK122 := n0_; have HB := n1_; clear n0_ n1_; (try clear hb); (try clear hb2); (try clear hk); (try clear hi))))
    go_loopg [6, 7, 22] kj1 (fun kq v6 v7 v22 w' => ∃ (x6_2 : Int) (x7_2 : Int) (x22_2 : Int), v6 = .int .i64 x6_2 ∧ v7 = .int .i64 x7_2 ∧ v22 = .int .i64 x22_2 ∧ Aside0 (impl_LongestStraight.l0 kq t124 x6_2 x7_2 (t124.size : Int) x22_2 = some (r1, r2, r3)) ∧ Aside0 (kq ≤ kj1) ∧ Aside0 (w'.heap[gb122]? = some (.cells #[.string a0_0, .int .i64 a0_1] 27 (0, 0))) ∧ Aside0 (Below w.heap.size w w'))
    case atStart => exact ⟨(0), (0), (0), (by first | rfl | (simp; done) | (simp [*]; done)), (by first | rfl | (simp; done) | (simp [*]; done)), (by first | rfl | (simp; done) | (simp [*]; done)), H', ⟨Nat.le_refl _⟩, ⟨by (with_reducible repeat (first | apply lN_ | apply lD_ | apply lA_)); exact BK122.out⟩, ⟨bb1_ HB GE122⟩⟩
    case round =>
     clear H'
     try clear c1
     try clear p2
     try clear c5
     try clear c9
     try clear c11
     try clear hcz13_0
     try clear hcz13_1
     try clear hcz6_0
     try clear hcz6_1
     try clear hcz8_0
     try clear hcz8_1
     try clear hcz9_0
     try clear hcz9_1
     try clear hfz13_0
     try clear hfz13_1
     try clear hfz6_0
     try clear hfz6_1
     try clear hfz8_0
     try clear hfz8_1
     try clear hfz9_0
     try clear hfz9_1
     try clear p2
     obtain ⟨x6_2, x7_2, x22_2, rfl, rfl, rfl, HA, HK2, BK122, HB⟩ := hrel
     cases gk with
     | zero => exact absurd HA.out (by simp [impl_LongestStraight.l0])
     | succ k2 =>
      have H := HA.out
      clear HA
      simp only [impl_LongestStraight.l0] at H
      by_cases c15 : x22_2 < (t124.size : Int)
      ·rw [if_pos c15] at H
       have c15b0 : decide (x22_2 < (t124.size : Int)) = true := decide_eq_true c15
       clear c15
       have H' := Aside0.mk H
       clear H
       go_wp2
       repeat (go_quiet (fail); try go_wp2)
       go_loopg [9] k2 (fun kq v9 w' => ∃ (x9_3 : Int), v9 = .int .i64 x9_3 ∧ Aside0 (impl_LongestStraight.l1 kq t124 x6_2 x7_2 x22_2 x9_3 (t124.size : Int) x22_2 = some (r1, r2, r3)) ∧ Aside0 (kq ≤ k2) ∧ Aside0 (w'.heap[gb122]? = some (.cells #[.string a0_0, .int .i64 a0_1] 27 (0, 0))) ∧ Aside0 (Below w.heap.size w w'))
       case atStart => exact ⟨(1), (by first | rfl | (simp; done) | (simp [*]; done)), H', ⟨Nat.le_refl _⟩, ⟨by (with_reducible repeat (first | apply lN_ | apply lD_ | apply lA_)); exact BK122.out⟩, ⟨bb1_ HB GE122⟩⟩
       case round =>
        clear H'
        try clear c1
        try clear p2
        try clear c5
        try clear c9
        try clear c11
        try clear c15
        try clear c15b0
        try clear hcz13_0
        try clear hcz13_1
        try clear hcz6_0
        try clear hcz6_1
        try clear hcz8_0
        try clear hcz8_1
        try clear hcz9_0
        try clear hcz9_1
        try clear hfz13_0
        try clear hfz13_1
        try clear hfz6_0
        try clear hfz6_1
        try clear hfz8_0
        try clear hfz8_1
        try clear hfz9_0
        try clear hfz9_1
        try clear p2
        obtain ⟨x9_3, rfl, HA, HK3, BK122, HB⟩ := hrel
        cases gk with
        | zero => exact absurd HA.out (by simp [impl_LongestStraight.l1])
        | succ k3 =>
         have H := HA.out
         clear HA
         simp only [impl_LongestStraight.l1] at H
         by_cases c16 : (wrap64 (x22_2 + x9_3)) < (t124.size : Int)
         ·rw [if_pos c16] at H
          have c16b0 : decide ((wrap64 (x22_2 + x9_3)) < (t124.size : Int)) = true := decide_eq_true c16
          clear c16
          obtain ⟨ji17, hji17⟩ : ∃ j_ : Int, (wrap64 (x22_2 + x9_3)) = j_ := ⟨_, rfl⟩
          replace H : (if 0 ≤ (ji17) then (if 0 ≤ x22_2 then (if x22_2 < (t124.size : Int) then (if (bt t124 (ji17)) = (bt t124 x22_2) then (impl_LongestStraight.l1 k3 t124 x6_2 x7_2 x22_2 (wrap64 (x9_3 + 1)) (t124.size : Int) x22_2) else (if x9_3 > x7_2 then (impl_LongestStraight.l0 k3 t124 x22_2 x9_3 (t124.size : Int) (wrap64 (x22_2 + 1))) else (impl_LongestStraight.l0 k3 t124 x6_2 x7_2 (t124.size : Int) (wrap64 (x22_2 + 1))))) else (none)) else (none)) else (none)) = some (r1, r2, r3) := by first | (rw [hji17] at H; exact H) | (simp only [hji17] at H ⊢; exact H)
          (try rw [hji17] at c16b0)
          have hji17w : (IntKind.i64.wrap (x22_2 + x9_3)) = ji17 := (i64_w _).trans hji17
          by_cases c18 : 0 ≤ (ji17)
          ·rw [if_pos c18] at H
           have c18b0 : decide (0 ≤ (ji17)) = true := decide_eq_true c18
           clear c18
           by_cases c20 : 0 ≤ x22_2
           ·rw [if_pos c20] at H
            have c20b0 : decide (0 ≤ x22_2) = true := decide_eq_true c20
            clear c20
            by_cases c21 : x22_2 < (t124.size : Int)
            ·rw [if_pos c21] at H
             have c21b0 : decide (x22_2 < (t124.size : Int)) = true := decide_eq_true c21
             clear c21
             by_cases c23 : (bt t124 (ji17)) = (bt t124 x22_2)
             ·rw [if_pos c23] at H
              have c23b0 : ((bt t124 (ji17)) == (bt t124 x22_2)) = true := beq_iff_eq.mpr c23
              have c23b1 : ((bt t124 (ji17)) != (bt t124 x22_2)) = false := bne_eq_false_iff_eq.mpr c23
              clear c23
              have H' := Aside0.mk H
              clear H
              have p19 : 0 ≤ ((ji17) : Int) := of_decide_eq_true as_
              have q19 : (ji17) < (t124.size : Int) := of_decide_eq_true as_
              have hx19 := bt_at t124 (ji17)
              replace p19 := eq_true p19
              replace q19 := eq_true q19
              have p22 : 0 ≤ (x22_2 : Int) := of_decide_eq_true as_
              have q22 : x22_2 < (t124.size : Int) := of_decide_eq_true as_
              have hx22 := bt_at t124 x22_2
              replace p22 := eq_true p22
              replace q22 := eq_true q22
              go_wp2
              repeat (go_quiet (fail); try go_wp2)
              go_roundg k3
              case measure => have := HJ1.out; have := HK2.out; have := HK3.out; omega
              case rel => exact ⟨(wrap64 (x9_3 + 1)), (by first | rfl | (simp; done) | (simp [*]; done)), H', ⟨by have := HJ1.out; have := HK2.out; have := HK3.out; omega⟩, ⟨by (with_reducible repeat (first | apply lN_ | apply lD_ | apply lA_)); exact BK122.out⟩, ⟨bb1_ HB GE122⟩⟩
             ·rw [if_neg c23] at H
              have c23b0 : ((bt t124 (ji17)) == (bt t124 x22_2)) = false := beq_eq_false_iff_ne.mpr c23
              have c23b1 : ((bt t124 (ji17)) != (bt t124 x22_2)) = true := bne_iff_ne.mpr c23
              by_cases c24 : x9_3 > x7_2
              ·rw [if_pos c24] at H
               have c24b0 : decide (x7_2 < x9_3) = true := decide_eq_true c24
               clear c24
               have H' := Aside0.mk H
               clear H
               have p19 : 0 ≤ ((ji17) : Int) := of_decide_eq_true as_
               have q19 : (ji17) < (t124.size : Int) := of_decide_eq_true as_
               have hx19 := bt_at t124 (ji17)
               replace p19 := eq_true p19
               replace q19 := eq_true q19
               have p22 : 0 ≤ (x22_2 : Int) := of_decide_eq_true as_
               have q22 : x22_2 < (t124.size : Int) := of_decide_eq_true as_
               have hx22 := bt_at t124 x22_2
               replace p22 := eq_true p22
               replace q22 := eq_true q22
               go_wp2
               repeat (go_quiet (fail); try go_wp2)
               go_roundg k3
               case measure => have := HJ1.out; have := HK2.out; have := HK3.out; omega
               case rel => exact ⟨(x22_2), (x9_3), (wrap64 (x22_2 + 1)), (by first | rfl | (simp; done) | (simp [*]; done)), (by first | rfl | (simp; done) | (simp [*]; done)), (by first | rfl | (simp; done) | (simp [*]; done)), H', ⟨by have := HJ1.out; have := HK2.out; have := HK3.out; omega⟩, ⟨by (with_reducible repeat (first | apply lN_ | apply lD_ | apply lA_)); exact BK122.out⟩, ⟨bb1_ HB GE122⟩⟩
              ·rw [if_neg c24] at H
               have c24b0 : decide (x7_2 < x9_3) = false := decide_eq_false c24
               clear c24
               have H' := Aside0.mk H
               clear H
               have p19 : 0 ≤ ((ji17) : Int) := of_decide_eq_true as_
               have q19 : (ji17) < (t124.size : Int) := of_decide_eq_true as_
               have hx19 := bt_at t124 (ji17)
               replace p19 := eq_true p19
               replace q19 := eq_true q19
               have p22 : 0 ≤ (x22_2 : Int) := of_decide_eq_true as_
               have q22 : x22_2 < (t124.size : Int) := of_decide_eq_true as_
               have hx22 := bt_at t124 x22_2
               replace p22 := eq_true p22
               replace q22 := eq_true q22
               go_wp2
               repeat (go_quiet (fail); try go_wp2)
               go_roundg k3
               case measure => have := HJ1.out; have := HK2.out; have := HK3.out; omega
               case rel => exact ⟨(x6_2), (x7_2), (wrap64 (x22_2 + 1)), (by first | rfl | (simp; done) | (simp [*]; done)), (by first | rfl | (simp; done) | (simp [*]; done)), (by first | rfl | (simp; done) | (simp [*]; done)), H', ⟨by have := HJ1.out; have := HK2.out; have := HK3.out; omega⟩, ⟨by (with_reducible repeat (first | apply lN_ | apply lD_ | apply lA_)); exact BK122.out⟩, ⟨bb1_ HB GE122⟩⟩
            ·rw [if_neg c21] at H
             exact absurd H (by simp)
           ·rw [if_neg c20] at H
            exact absurd H (by simp)
          ·rw [if_neg c18] at H
           exact absurd H (by simp)
         ·rw [if_neg c16] at H
          have c16b0 : decide ((wrap64 (x22_2 + x9_3)) < (t124.size : Int)) = false := decide_eq_false c16
          clear c16
          by_cases c25 : x9_3 > x7_2
          ·rw [if_pos c25] at H
           have c25b0 : decide (x7_2 < x9_3) = true := decide_eq_true c25
           clear c25
           have H' := Aside0.mk H
           clear H
           go_wp2
           repeat (go_quiet (fail); try go_wp2)
           go_roundg k3
           case measure => have := HJ1.out; have := HK2.out; have := HK3.out; omega
           case rel => exact ⟨(x22_2), (x9_3), (wrap64 (x22_2 + 1)), (by first | rfl | (simp; done) | (simp [*]; done)), (by first | rfl | (simp; done) | (simp [*]; done)), (by first | rfl | (simp; done) | (simp [*]; done)), H', ⟨by have := HJ1.out; have := HK2.out; have := HK3.out; omega⟩, ⟨by (with_reducible repeat (first | apply lN_ | apply lD_ | apply lA_)); exact BK122.out⟩, ⟨bb1_ HB GE122⟩⟩
          ·rw [if_neg c25] at H
           have c25b0 : decide (x7_2 < x9_3) = false := decide_eq_false c25
           clear c25
           have H' := Aside0.mk H
           clear H
           go_wp2
           repeat (go_quiet (fail); try go_wp2)
           go_roundg k3
           case measure => have := HJ1.out; have := HK2.out; have := HK3.out; omega
           case rel => exact ⟨(x6_2), (x7_2), (wrap64 (x22_2 + 1)), (by first | rfl | (simp; done) | (simp [*]; done)), (by first | rfl | (simp; done) | (simp [*]; done)), (by first | rfl | (simp; done) | (simp [*]; done)), H', ⟨by have := HJ1.out; have := HK2.out; have := HK3.out; omega⟩, ⟨by (with_reducible repeat (first | apply lN_ | apply lD_ | apply lA_)); exact BK122.out⟩, ⟨bb1_ HB GE122⟩⟩
      ·rw [if_neg c15] at H
       have c15b0 : decide (x22_2 < (t124.size : Int)) = false := decide_eq_false c15
       clear c15
       by_cases c26 : 0 ≤ x6_2
       ·rw [if_pos c26] at H
        have c26b0 := eq_true c26
        have c26b1 : decide (0 ≤ x6_2) = true := decide_eq_true c26
        clear c26
        by_cases c27 : x6_2 ≤ (wrap64 (x6_2 + 1))
        ·rw [if_pos c27] at H
         have c27b0 := eq_true c27
         have c27b1 : decide (x6_2 ≤ (wrap64 (x6_2 + 1))) = true := decide_eq_true c27
         by_cases c28 : (wrap64 (x6_2 + 1)) ≤ (t124.size : Int)
         ·rw [if_pos c28] at H
          have c28b0 := eq_true c28
          have c28b1 : decide ((wrap64 (x6_2 + 1)) ≤ (t124.size : Int)) = true := decide_eq_true c28
          simp only [Option.some.injEq, Prod.mk.injEq] at H
          obtain ⟨rfl, rfl, rfl⟩ := H
          go_wp2
          repeat (go_quiet (fail); try go_wp2)
          go_ret3
          exact ⟨by first | rfl | (simp [errW_none, errW_some] <;> rfl) | (simp [*, errW_none, errW_some] <;> rfl), bb1_ HB GE122⟩
         ·rw [if_neg c28] at H
          exact absurd H (by simp)
        ·rw [if_neg c27] at H
         exact absurd H (by simp)
       ·rw [if_neg c26] at H
        exact absurd H (by simp)

/-! ### laws_FnExactLongestStraight: function 3 -/
def laws_FnExactLongestStraight.f (k : Nat) (a0_0 : ByteArray) (a0_1 : Int) : Option (Bool) := (laws_szMove.f a0_0 a0_1 1048576).bind fun t126 => (if t126 < 0 then (some true) else ((laws_toMove.f a0_0 a0_1).bind fun bt127 => ((spec_LongestStraight.f k bt127.1 bt127.2).bind fun bt129 => ((laws_toMove.f a0_0 a0_1).bind fun bt132 => ((impl_LongestStraight.f k bt132.1 bt132.2).bind fun bt134 => (if bt134.1.toList = bt129.1.toList then (if bt134.2.1 = bt129.2.1 then (if (bt134.2.2 != bt129.2.2) = true then (none) else (some true)) else (none)) else (none)))))))
theorem laws_FnExactLongestStraight.mono : ∀ a0 a1 k, LeO (laws_FnExactLongestStraight.f k a0 a1) (laws_FnExactLongestStraight.f (k + 1) a0 a1) := by
 intro a0 a1 k
 unfold laws_FnExactLongestStraight.f
 repeat' first
   | (with_reducible exact impl_LongestStraight.mono _ _ _)
   | (with_reducible exact spec_LongestStraight.mono _ _ _)
   | (with_reducible exact LeO.refl _)
   | (with_reducible exact LeO.none _)
   | (with_reducible refine LeO.ite ?_ ?_)
   | (with_reducible refine LeO.bind ?_ (fun _ => ?_))
   | exact LeO.none _
   | refine LeO.ite ?_ ?_
   | refine LeO.bind ?_ (fun _ => ?_)
set_option maxHeartbeats 8000000 in
set_option maxRecDepth 100000 in
theorem laws_FnExactLongestStraight.calls (k : Nat) (a0_0 : ByteArray) (a0_1 : Int) (r : Bool) (w : World) (h : laws_FnExactLongestStraight.f k a0_0 a0_1 = some r) :
  Calls Try.prog 3 #[.agg #[.string a0_0, .int .i64 a0_1]] w fun e w' => e = .returned (.bool r) ∧ Below w.heap.size w w' := by
 have hu23 := Try.underlying23
 have HB := Aside0.mk (Below.refl w.heap.size w)
 have H : ((laws_szMove.f a0_0 a0_1 1048576).bind fun t126 => (if t126 < 0 then (some true) else ((laws_toMove.f a0_0 a0_1).bind fun bt127 => ((spec_LongestStraight.f k bt127.1 bt127.2).bind fun bt129 => ((laws_toMove.f a0_0 a0_1).bind fun bt132 => ((impl_LongestStraight.f k bt132.1 bt132.2).bind fun bt134 => (if bt134.1.toList = bt129.1.toList then (if bt134.2.1 = bt129.2.1 then (if (bt134.2.2 != bt129.2.2) = true then (none) else (some true)) else (none)) else (none)))))))) = some r := h
 clear h
 replace H := Option.bind_eq_some_iff.mp H
 obtain ⟨t126, A20, H⟩ := H
 try dsimp only at H
 have A2 := Aside0.mk A20
 clear A20
 by_cases c3 : t126 < 0
 ·rw [if_pos c3] at H
  have c3b0 : decide (t126 < 0) = true := decide_eq_true c3
  clear c3
  obtain rfl := Option.some.inj H
  go_enter Try.func3, Try.ntmps3
  go_wp2_with (first | ((with_reducible refine gate_dst (N := 1) rfl ?_); refine box_event ?hg (N := 1) ?hd (cs := #[.string a0_0, .int .i64 a0_1]) (t := 23) ?hr ?_; (case hd => rfl); (case hg => rfl); (case hr => first | (go_simp; done) | (go_simp; rfl)); intro gb125 hg w4 hbox hb; have n0_ := Aside0.mk (bt_ HB hb); have n1_ := Aside0.mk (hbox); have n2_ := gz_ hg HB; have n3_ := gz_ hg HB; clear HB; have HB := n0_; have BK125 := n1_; have GW125 := n2_; have GE125 := n3_; clear n0_ n1_ n2_ n3_; clear hb hbox hg; have hcz5_0 := cz0_ BK125; have hcz5_1 := cz1_ BK125; have hfz5_0 := fz_ BK125 0; have hfz5_1 := fz_ BK125 1) | ((with_reducible refine gate_callee (f := 6) rfl ?_); refine goesL_ (some 12) rfl rfl Try.func6 (by kernel_rfl) rfl #[.agg #[.string a0_0, .int .i64 a0_1], .int .i64 1048576] rfl args_ ?_; (with_reducible refine (laws_szMove.calls a0_0 a0_1 1048576 t126 _ A2.out).mono ?_); rintro e w6 ⟨rfl, hb⟩; refine ⟨_, rfl, ?_⟩; have n0_ := Aside0.mk (lb_ BK125 hb); have n1_ := Aside0.mk (below_step (bb1_ HB GE125) hb); clear BK125; clear HB; have BK125 := n0_; have HB := n1_; clear n0_ n1_; (try clear hb); (try clear hb2); (try clear hk); (try clear hi)))
  go_ret
  exact ⟨by first | rfl | (simp [errW_none, errW_some] <;> rfl) | (simp [*, errW_none, errW_some] <;> rfl), bb1_ HB GE125⟩
 ·rw [if_neg c3] at H
  have c3b0 : decide (t126 < 0) = false := decide_eq_false c3
  clear c3
  replace H := Option.bind_eq_some_iff.mp H
  obtain ⟨⟨t127, t128⟩, A70, H⟩ := H
  try dsimp only at H
  have A7 := Aside0.mk A70
  clear A70
  replace H := Option.bind_eq_some_iff.mp H
  obtain ⟨⟨t129, t130, t131⟩, A80, H⟩ := H
  try dsimp only at H
  have A8 := Aside0.mk A80
  clear A80
  replace H := Option.bind_eq_some_iff.mp H
  obtain ⟨⟨t132, t133⟩, A90, H⟩ := H
  try dsimp only at H
  have A9 := Aside0.mk A90
  clear A90
  replace H := Option.bind_eq_some_iff.mp H
  obtain ⟨⟨t134, t135, t136⟩, A100, H⟩ := H
  try dsimp only at H
  have A10 := Aside0.mk A100
  clear A100
  by_cases c11 : t134.toList = t129.toList
  ·rw [if_pos c11] at H
   have c11b0 : (t134.toList == t129.toList) = true := beq_iff_eq.mpr c11
   have c11b1 : (t134.toList != t129.toList) = false := bne_eq_false_iff_eq.mpr c11
   clear c11
   by_cases c12 : t135 = t130
   ·rw [if_pos c12] at H
    have c12b0 : (t135 == t130) = true := beq_iff_eq.mpr c12
    have c12b1 : (t135 != t130) = false := bne_eq_false_iff_eq.mpr c12
    clear c12
    by_cases c13 : (t136 != t131) = true
    ·rw [if_pos c13] at H
     exact absurd H (by simp)
    ·rw [if_neg c13] at H
     have c13b0 : (t136 != t131) = false := by simpa using c13
     (try (have c13b1 : decide (t136 = t131) = true := by simpa using c13))
     (try (have c13b2 : (t136 == t131) = true := by simpa using c13))
     clear c13
     obtain rfl := Option.some.inj H
     go_enter Try.func3, Try.ntmps3
     go_wp2_with (first | ((with_reducible refine gate_dst (N := 1) rfl ?_); refine box_event ?hg (N := 1) ?hd (cs := #[.string a0_0, .int .i64 a0_1]) (t := 23) ?hr ?_; (case hd => rfl); (case hg => rfl); (case hr => first | (go_simp; done) | (go_simp; rfl)); intro gb125 hg w14 hbox hb; have n0_ := Aside0.mk (bt_ HB hb); have n1_ := Aside0.mk (hbox); have n2_ := gz_ hg HB; have n3_ := gz_ hg HB; clear HB; have HB := n0_; have BK125 := n1_; have GW125 := n2_; have GE125 := n3_; clear n0_ n1_ n2_ n3_; clear hb hbox hg; have hcz15_0 := cz0_ BK125; have hcz15_1 := cz1_ BK125; have hfz15_0 := fz_ BK125 0; have hfz15_1 := fz_ BK125 1) | ((with_reducible refine gate_callee (f := 6) rfl ?_); refine goesL_ (some 12) rfl rfl Try.func6 (by kernel_rfl) rfl #[.agg #[.string a0_0, .int .i64 a0_1], .int .i64 1048576] rfl args_ ?_; (with_reducible refine (laws_szMove.calls a0_0 a0_1 1048576 t126 _ A2.out).mono ?_); rintro e w16 ⟨rfl, hb⟩; refine ⟨_, rfl, ?_⟩; have n0_ := Aside0.mk (lb_ BK125 hb); have n1_ := Aside0.mk (below_step (bb1_ HB GE125) hb); clear BK125; clear HB; have BK125 := n0_; have HB := n1_; clear n0_ n1_; (try clear hb); (try clear hb2); (try clear hk); (try clear hi); have hcz17_0 := cz0_ BK125; have hcz17_1 := cz1_ BK125; have hfz17_0 := fz_ BK125 0; have hfz17_1 := fz_ BK125 1) | ((with_reducible refine gate_callee (f := 8) rfl ?_); refine goesL_ (some 17) rfl rfl Try.func8 (by kernel_rfl) rfl #[.agg #[.string a0_0, .int .i64 a0_1]] rfl args_ ?_; (with_reducible refine (laws_toMove.calls a0_0 a0_1 t127 t128 _ A7.out).mono ?_); rintro e w18 ⟨rfl, hb⟩; refine ⟨_, rfl, ?_⟩; have n0_ := Aside0.mk (lb_ BK125 hb); have n1_ := Aside0.mk (below_step (bb1_ HB GE125) hb); clear BK125; clear HB; have BK125 := n0_; have HB := n1_; clear n0_ n1_; (try clear hb); (try clear hb2); (try clear hk); (try clear hi)) | ((with_reducible refine gate_callee (f := 7) rfl ?_); refine goesL_ (some 18) rfl rfl Try.func7 (by kernel_rfl) rfl #[.agg #[.string t127, .int .i64 t128]] rfl args_ ?_; (with_reducible refine (spec_LongestStraight.calls k t127 t128 t129 t130 t131 _ A8.out).mono ?_); rintro e w19 ⟨rfl, hb⟩; refine ⟨_, rfl, ?_⟩; have n0_ := Aside0.mk (lb_ BK125 hb); have n1_ := Aside0.mk (below_step (bb1_ HB GE125) hb); clear BK125; clear HB; have BK125 := n0_; have HB := n1_; clear n0_ n1_; (try clear hb); (try clear hb2); (try clear hk); (try clear hi); have hcz20_0 := cz0_ BK125; have hcz20_1 := cz1_ BK125; have hfz20_0 := fz_ BK125 0; have hfz20_1 := fz_ BK125 1) | ((with_reducible refine gate_callee (f := 8) rfl ?_); refine goesL_ (some 24) rfl rfl Try.func8 (by kernel_rfl) rfl #[.agg #[.string a0_0, .int .i64 a0_1]] rfl args_ ?_; (with_reducible refine (laws_toMove.calls a0_0 a0_1 t132 t133 _ A9.out).mono ?_); rintro e w21 ⟨rfl, hb⟩; refine ⟨_, rfl, ?_⟩; have n0_ := Aside0.mk (lb_ BK125 hb); have n1_ := Aside0.mk (below_step (bb1_ HB GE125) hb); clear BK125; clear HB; have BK125 := n0_; have HB := n1_; clear n0_ n1_; (try clear hb); (try clear hb2); (try clear hk); (try clear hi)) | ((with_reducible refine gate_callee (f := 9) rfl ?_); refine goesL_ (some 25) rfl rfl Try.func9 (by kernel_rfl) rfl #[.agg #[.string t132, .int .i64 t133]] rfl args_ ?_; (with_reducible refine (impl_LongestStraight.calls k t132 t133 t134 t135 t136 _ A10.out).mono ?_); rintro e w22 ⟨rfl, hb⟩; refine ⟨_, rfl, ?_⟩; have n0_ := Aside0.mk (lb_ BK125 hb); have n1_ := Aside0.mk (below_step (bb1_ HB GE125) hb); clear BK125; clear HB; have BK125 := n0_; have HB := n1_; clear n0_ n1_; (try clear hb); (try clear hb2); (try clear hk); (try clear hi)))
     go_ret
     exact ⟨by first | rfl | (simp [errW_none, errW_some] <;> rfl) | (simp [*, errW_none, errW_some] <;> rfl), bb1_ HB GE125⟩
   ·rw [if_neg c12] at H
    exact absurd H (by simp)
  ·rw [if_neg c11] at H
   exact absurd H (by simp)

end Go.Proofs.Ytadddkdfbmbagaa.PA
