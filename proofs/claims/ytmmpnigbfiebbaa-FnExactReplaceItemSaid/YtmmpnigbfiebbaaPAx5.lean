-- Written by a program of this session (wip/tools/myprint.py). Not trusted: Lean checks it.
import Derived.Test.YtmmpnigbfiebbaaPAx0
import Derived.Test.YtmmpnigbfiebbaaPAx1
import Derived.Test.YtmmpnigbfiebbaaPAx2
import Derived.Test.YtmmpnigbfiebbaaPAx3
namespace Go.Proofs.Ytmmpnigbfiebbaa.PA
open Go.RowKit Go.Proofs.YtmmpnigbfiebbaaW.PrintWords Go.Proofs.YtmmpnigbfiebbaaW.PrintLast Go.Proofs.YtmmpnigbfiebbaaW.PrintMore
attribute [local go_sem] max2_int min2_int max_two min_two max_three min_three max_four min_four   -- for this text's walks alone
set_option linter.unusedVariables false
set_option linter.unusedSimpArgs false

/-! ### laws_szDeskEditS: function 58 -/
def laws_szDeskEditS.l0 : Nat → List (S23) → Int → Int → Option (Int)
 | 0, _, _, _ => none
 | k + 1, x0, x1, x5 => if x5 < (x0.length : Int) then (if 0 ≤ x5 then ((laws_szDeskEdit.f ((rd_T23 x0 x5).f0) ((rd_T23 x0 x5).f1) ((rd_T23 x0 x5).f2) ((rd_T23 x0 x5).f3) x1).bind fun t270 => (if t270 < 0 then (some (-1)) else (laws_szDeskEditS.l0 k x0 t270 (wrap64 (x5 + 1))))) else (none)) else (some x1)
def laws_szDeskEditS.f (k : Nat) (l0 : List (S23)) (a1 : Int) : Option (Int) := if (wrap64 (a1 - (l0.length : Int))) < 0 then (some (-1)) else (laws_szDeskEditS.l0 k l0 (wrap64 (a1 - (l0.length : Int))) 0)
theorem laws_szDeskEditS.mono_l : ∀ k, (∀ y0 y1 y2, LeO (laws_szDeskEditS.l0 k y0 y1 y2) (laws_szDeskEditS.l0 (k + 1) y0 y1 y2))
 | 0 => fun _ _ _ r h => by simp [laws_szDeskEditS.l0] at h
 | k + 1 => by
  have ih0 := laws_szDeskEditS.mono_l k
  ·intro y0 y1 y2
   unfold laws_szDeskEditS.l0
   repeat' first
   | (with_reducible exact ih0 _ _ _)
   | (with_reducible exact LeO.refl _)
   | (with_reducible exact LeO.none _)
   | (with_reducible refine LeO.ite ?_ ?_)
   | (with_reducible refine LeO.bind ?_ (fun _ => ?_))
   | exact ih0 _ _ _
   | exact LeO.none _
   | refine LeO.ite ?_ ?_
   | refine LeO.bind ?_ (fun _ => ?_)
theorem laws_szDeskEditS.mono : ∀ a0 a1 k, LeO (laws_szDeskEditS.f k a0 a1) (laws_szDeskEditS.f (k + 1) a0 a1) := by
 intro a0 a1 k
 have ih0 := laws_szDeskEditS.mono_l k
 unfold laws_szDeskEditS.f
 repeat' first
   | (with_reducible exact ih0 _ _ _)
   | (with_reducible exact LeO.refl _)
   | (with_reducible exact LeO.none _)
   | (with_reducible refine LeO.ite ?_ ?_)
   | (with_reducible refine LeO.bind ?_ (fun _ => ?_))
   | exact ih0 _ _ _
   | exact LeO.none _
   | refine LeO.ite ?_ ?_
   | refine LeO.bind ?_ (fun _ => ?_)
set_option maxHeartbeats 8000000 in
set_option maxRecDepth 100000 in
theorem laws_szDeskEditS.calls (k : Nat) (A0 : Option Addr) (c0 : Nat) (l0 : List (S23)) (a1 : Int) (r : Int) (w : World) (hr0 : Kd.C k23 w A0 l0.length l0) (hc0 : l0.length ≤ c0) (h : laws_szDeskEditS.f k l0 a1 = some r) :
  Calls Try.prog 58 #[.slice A0 l0.length c0, .int .i64 a1] w fun e w' => e = .returned (.int .i64 r) ∧ Below w.heap.size w w' := by
 have hu23 := Try.underlying23
 have HR0 := Aside0.mk hr0
 have HC0 := Aside0.mk hc0
 clear hr0 hc0
 have HB := Aside0.mk (Below.refl w.heap.size w)
 have H : (if (wrap64 (a1 - (l0.length : Int))) < 0 then (some (-1)) else (laws_szDeskEditS.l0 k l0 (wrap64 (a1 - (l0.length : Int))) 0)) = some r := h
 clear h
 by_cases c3 : (wrap64 (a1 - (l0.length : Int))) < 0
 ·rw [if_pos c3] at H
  have c3b0 : decide ((wrap64 (a1 - (l0.length : Int))) < 0) = true := decide_eq_true c3
  clear c3
  obtain rfl := Option.some.inj H
  go_enter Try.func58, Try.ntmps58
  go_wp2
  go_ret
  exact ⟨by first | rfl | (simp [errW_none, errW_some] <;> rfl) | (simp [*, errW_none, errW_some] <;> rfl), bb_ HB⟩
 ·rw [if_neg c3] at H
  have c3b0 : decide ((wrap64 (a1 - (l0.length : Int))) < 0) = false := decide_eq_false c3
  clear c3
  have H' := Aside0.mk H
  clear H
  go_enter Try.func58, Try.ntmps58
  go_wp2
  go_loopg [1, 5] k (fun kq v1 v5 w' => ∃ (x1_1 : Int) (x5_1 : Int), v1 = .int .i64 x1_1 ∧ v5 = .int .i64 x5_1 ∧ Aside0 (laws_szDeskEditS.l0 kq l0 x1_1 x5_1 = some r) ∧ Aside0 (kq ≤ k) ∧ Aside0 (Below w.heap.size w w'))
  case atStart => exact ⟨(wrap64 (a1 - (l0.length : Int))), (0), (by first | rfl | (simp; done) | (simp [*]; done)), (by first | rfl | (simp; done) | (simp [*]; done)), H', ⟨Nat.le_refl _⟩, ⟨bb_ HB⟩⟩
  case round =>
   clear H'
   try clear p2
   try clear c3
   try clear c3b0
   obtain ⟨x1_1, x5_1, rfl, rfl, HA, HK1, HB⟩ := hrel
   cases gk with
   | zero => exact absurd HA.out (by simp [laws_szDeskEditS.l0])
   | succ k1 =>
    have H := HA.out
    clear HA
    simp only [laws_szDeskEditS.l0] at H
    by_cases c4 : x5_1 < (l0.length : Int)
    ·rw [if_pos c4] at H
     have c4b0 : decide (x5_1 < (l0.length : Int)) = true := decide_eq_true c4
     clear c4
     by_cases c5 : 0 ≤ x5_1
     ·rw [if_pos c5] at H
      have c5b0 : decide (0 ≤ x5_1) = true := decide_eq_true c5
      clear c5
      replace H := Option.bind_eq_some_iff.mp H
      obtain ⟨t270, A60, H⟩ := H
      try dsimp only at H
      have A6 := Aside0.mk A60
      clear A60
      by_cases c7 : t270 < 0
      ·rw [if_pos c7] at H
       have c7b0 : decide (t270 < 0) = true := decide_eq_true c7
       clear c7
       obtain rfl := Option.some.inj H
       have p269 : 0 ≤ (x5_1 : Int) := of_decide_eq_true as_
       have q269 : x5_1 < (l0.length : Int) := of_decide_eq_true as_
       obtain ⟨ad269, e269, hx269_0, hx269_1, hx269_2, hx269_3⟩ := at_T23 HR0.out x5_1 p269 q269
       cases e269
       replace hx269_0 := hc_ HB hx269_0
       replace hx269_1 := hc_ HB hx269_1
       replace hx269_2 := hc_ HB hx269_2
       replace hx269_3 := hc_ HB hx269_3
       replace p269 := eq_true p269
       replace q269 := eq_true q269
       go_wp2_with (first | ((with_reducible refine gate_callee (f := 14) rfl ?_); refine goesL_ (some 23) rfl rfl Try.func14 (by kernel_rfl) rfl #[.agg #[.int .i64 ((rd_T23 l0 x5_1).f0), .int .i64 ((rd_T23 l0 x5_1).f1), .string ((rd_T23 l0 x5_1).f2), .string ((rd_T23 l0 x5_1).f3)], .int .i64 x1_1] rfl args_ ?_; (with_reducible refine (laws_szDeskEdit.calls ((rd_T23 l0 x5_1).f0) ((rd_T23 l0 x5_1).f1) ((rd_T23 l0 x5_1).f2) ((rd_T23 l0 x5_1).f3) x1_1 t270 _ A6.out).mono ?_); rintro e w8 ⟨rfl, hb⟩; refine ⟨_, rfl, ?_⟩; have n0_ := Aside0.mk (bt_ HB hb); clear HB; have HB := n0_; clear n0_; (try clear hb); (try clear hb2); (try clear hk); (try clear hi)))
       go_ret
       exact ⟨by first | rfl | (simp [errW_none, errW_some] <;> rfl) | (simp [*, errW_none, errW_some] <;> rfl), bb_ HB⟩
      ·rw [if_neg c7] at H
       have c7b0 : decide (t270 < 0) = false := decide_eq_false c7
       clear c7
       have H' := Aside0.mk H
       clear H
       have p269 : 0 ≤ (x5_1 : Int) := of_decide_eq_true as_
       have q269 : x5_1 < (l0.length : Int) := of_decide_eq_true as_
       obtain ⟨ad269, e269, hx269_0, hx269_1, hx269_2, hx269_3⟩ := at_T23 HR0.out x5_1 p269 q269
       cases e269
       replace hx269_0 := hc_ HB hx269_0
       replace hx269_1 := hc_ HB hx269_1
       replace hx269_2 := hc_ HB hx269_2
       replace hx269_3 := hc_ HB hx269_3
       replace p269 := eq_true p269
       replace q269 := eq_true q269
       go_wp2_with (first | ((with_reducible refine gate_callee (f := 14) rfl ?_); refine goesL_ (some 23) rfl rfl Try.func14 (by kernel_rfl) rfl #[.agg #[.int .i64 ((rd_T23 l0 x5_1).f0), .int .i64 ((rd_T23 l0 x5_1).f1), .string ((rd_T23 l0 x5_1).f2), .string ((rd_T23 l0 x5_1).f3)], .int .i64 x1_1] rfl args_ ?_; (with_reducible refine (laws_szDeskEdit.calls ((rd_T23 l0 x5_1).f0) ((rd_T23 l0 x5_1).f1) ((rd_T23 l0 x5_1).f2) ((rd_T23 l0 x5_1).f3) x1_1 t270 _ A6.out).mono ?_); rintro e w9 ⟨rfl, hb⟩; refine ⟨_, rfl, ?_⟩; have n0_ := Aside0.mk (bt_ HB hb); clear HB; have HB := n0_; clear n0_; (try clear hb); (try clear hb2); (try clear hk); (try clear hi)))
       go_roundg k1
       case measure => have := HK1.out; omega
       case rel => exact ⟨(t270), (wrap64 (x5_1 + 1)), (by first | rfl | (simp; done) | (simp [*]; done)), (by first | rfl | (simp; done) | (simp [*]; done)), H', ⟨by have := HK1.out; omega⟩, ⟨bb_ HB⟩⟩
     ·rw [if_neg c5] at H
      exact absurd H (by simp)
    ·rw [if_neg c4] at H
     have c4b0 : decide (x5_1 < (l0.length : Int)) = false := decide_eq_false c4
     clear c4
     obtain rfl := Option.some.inj H
     go_wp2
     go_ret
     exact ⟨by first | rfl | (simp [errW_none, errW_some] <;> rfl) | (simp [*, errW_none, errW_some] <;> rfl), bb_ HB⟩

/-! ### laws_szDesk: function 28 -/
def laws_szDesk.f (k : Nat) (l0_0 : List ByteArray) (l0_1 : List (S23)) (l0_2 : List (S23)) (a1 : Int) : Option (Int) := (laws_szStringS.f k l0_0 a1).bind fun t272 => (if t272 < 0 then (some (-1)) else ((laws_szDeskEditS.f k l0_1 t272).bind fun t273 => (if t273 < 0 then (some (-1)) else ((laws_szDeskEditS.f k l0_2 t273).bind fun t274 => (if t274 < 0 then (some (-1)) else (some t274))))))
theorem laws_szDesk.mono : ∀ a0 a1 a2 a3 k, LeO (laws_szDesk.f k a0 a1 a2 a3) (laws_szDesk.f (k + 1) a0 a1 a2 a3) := by
 intro a0 a1 a2 a3 k
 unfold laws_szDesk.f
 repeat' first
   | (with_reducible exact laws_szDeskEditS.mono _ _ _)
   | (with_reducible exact laws_szStringS.mono _ _ _)
   | (with_reducible exact LeO.refl _)
   | (with_reducible exact LeO.none _)
   | (with_reducible refine LeO.ite ?_ ?_)
   | (with_reducible refine LeO.bind ?_ (fun _ => ?_))
   | exact LeO.none _
   | refine LeO.ite ?_ ?_
   | refine LeO.bind ?_ (fun _ => ?_)
set_option maxHeartbeats 8000000 in
set_option maxRecDepth 100000 in
theorem laws_szDesk.calls (k : Nat) (A0_0 : Option Addr) (c0_0 : Nat) (l0_0 : List ByteArray) (A0_1 : Option Addr) (c0_1 : Nat) (l0_1 : List (S23)) (A0_2 : Option Addr) (c0_2 : Nat) (l0_2 : List (S23)) (a1 : Int) (r : Int) (w : World) (hr0_0 : Kd.C Kd.string w A0_0 l0_0.length l0_0) (hc0_0 : l0_0.length ≤ c0_0) (hr0_1 : Kd.C k23 w A0_1 l0_1.length l0_1) (hc0_1 : l0_1.length ≤ c0_1) (hr0_2 : Kd.C k23 w A0_2 l0_2.length l0_2) (hc0_2 : l0_2.length ≤ c0_2) (h : laws_szDesk.f k l0_0 l0_1 l0_2 a1 = some r) :
  Calls Try.prog 28 #[.agg #[.slice A0_0 l0_0.length c0_0, .slice A0_1 l0_1.length c0_1, .slice A0_2 l0_2.length c0_2], .int .i64 a1] w fun e w' => e = .returned (.int .i64 r) ∧ Below w.heap.size w w' := by
 have hu45 := Try.underlying45
 have HR0_0 := Aside0.mk hr0_0
 have HC0_0 := Aside0.mk hc0_0
 clear hr0_0 hc0_0
 have HR0_1 := Aside0.mk hr0_1
 have HC0_1 := Aside0.mk hc0_1
 clear hr0_1 hc0_1
 have HR0_2 := Aside0.mk hr0_2
 have HC0_2 := Aside0.mk hc0_2
 clear hr0_2 hc0_2
 have HB := Aside0.mk (Below.refl w.heap.size w)
 have H : ((laws_szStringS.f k l0_0 a1).bind fun t272 => (if t272 < 0 then (some (-1)) else ((laws_szDeskEditS.f k l0_1 t272).bind fun t273 => (if t273 < 0 then (some (-1)) else ((laws_szDeskEditS.f k l0_2 t273).bind fun t274 => (if t274 < 0 then (some (-1)) else (some t274))))))) = some r := h
 clear h
 replace H := Option.bind_eq_some_iff.mp H
 obtain ⟨t272, A30, H⟩ := H
 try dsimp only at H
 have A3 := Aside0.mk A30
 clear A30
 by_cases c4 : t272 < 0
 ·rw [if_pos c4] at H
  have c4b0 : decide (t272 < 0) = true := decide_eq_true c4
  clear c4
  obtain rfl := Option.some.inj H
  go_enter Try.func28, Try.ntmps28
  go_wp2_with (first | ((with_reducible refine gate_dst (N := 2) rfl ?_); refine box_event ?hg (N := 2) ?hd (cs := #[.slice A0_0 l0_0.length c0_0, .slice A0_1 l0_1.length c0_1, .slice A0_2 l0_2.length c0_2]) (t := 45) ?hr ?_; (case hd => rfl); (case hg => rfl); (case hr => first | (go_simp; done) | (go_simp; rfl)); intro gb271 hg w5 hbox hb; have n0_ := Aside0.mk (bt_ HB hb); have n1_ := Aside0.mk (hbox); have n2_ := gz_ hg HB; have n3_ := gz_ hg HB; clear HB; have HB := n0_; have BK271 := n1_; have GW271 := n2_; have GE271 := n3_; clear n0_ n1_ n2_ n3_; clear hb hbox hg; have hcz6_0 := cz0_ BK271; have hcz6_1 := cz1_ BK271; have hcz6_2 := cz2_ BK271; have hfz6_0 := fz_ BK271 0; have hfz6_1 := fz_ BK271 1; have hfz6_2 := fz_ BK271 2) | ((with_reducible refine gate_callee (f := 19) rfl ?_); refine goesL_ (some 8) rfl rfl Try.func19 (by kernel_rfl) rfl #[.slice A0_0 l0_0.length c0_0, .int .i64 a1] rfl args_ ?_; (with_reducible refine (laws_szStringS.calls k _ _ l0_0 a1 t272 _ ?side1 ?side2 A3.out).mono ?_); (case side1 => exact cb_ HR0_0 HB); (case side2 => exact HC0_0.out); rintro e w' ⟨rfl, ⟨nd, rfl⟩⟩; refine ⟨_, rfl, ?_⟩))
  go_ret
  exact ⟨by first | rfl | (simp [errW_none, errW_some] <;> rfl) | (simp [*, errW_none, errW_some] <;> rfl), bb1_ HB GE271⟩
 ·rw [if_neg c4] at H
  have c4b0 : decide (t272 < 0) = false := decide_eq_false c4
  clear c4
  replace H := Option.bind_eq_some_iff.mp H
  obtain ⟨t273, A70, H⟩ := H
  try dsimp only at H
  have A7 := Aside0.mk A70
  clear A70
  by_cases c8 : t273 < 0
  ·rw [if_pos c8] at H
   have c8b0 : decide (t273 < 0) = true := decide_eq_true c8
   clear c8
   obtain rfl := Option.some.inj H
   go_enter Try.func28, Try.ntmps28
   go_wp2_with (first | ((with_reducible refine gate_dst (N := 2) rfl ?_); refine box_event ?hg (N := 2) ?hd (cs := #[.slice A0_0 l0_0.length c0_0, .slice A0_1 l0_1.length c0_1, .slice A0_2 l0_2.length c0_2]) (t := 45) ?hr ?_; (case hd => rfl); (case hg => rfl); (case hr => first | (go_simp; done) | (go_simp; rfl)); intro gb271 hg w9 hbox hb; have n0_ := Aside0.mk (bt_ HB hb); have n1_ := Aside0.mk (hbox); have n2_ := gz_ hg HB; have n3_ := gz_ hg HB; clear HB; have HB := n0_; have BK271 := n1_; have GW271 := n2_; have GE271 := n3_; clear n0_ n1_ n2_ n3_; clear hb hbox hg; have hcz10_0 := cz0_ BK271; have hcz10_1 := cz1_ BK271; have hcz10_2 := cz2_ BK271; have hfz10_0 := fz_ BK271 0; have hfz10_1 := fz_ BK271 1; have hfz10_2 := fz_ BK271 2) | ((with_reducible refine gate_callee (f := 19) rfl ?_); refine goesL_ (some 8) rfl rfl Try.func19 (by kernel_rfl) rfl #[.slice A0_0 l0_0.length c0_0, .int .i64 a1] rfl args_ ?_; (with_reducible refine (laws_szStringS.calls k _ _ l0_0 a1 t272 _ ?side1 ?side2 A3.out).mono ?_); (case side1 => exact cb_ HR0_0 HB); (case side2 => exact HC0_0.out); rintro e w' ⟨rfl, ⟨nd, rfl⟩⟩; refine ⟨_, rfl, ?_⟩) | ((with_reducible refine gate_callee (f := 58) rfl ?_); refine goesL_ (some 14) rfl rfl Try.func58 (by kernel_rfl) rfl #[.slice A0_1 l0_1.length c0_1, .int .i64 t272] rfl args_ ?_; (with_reducible refine (laws_szDeskEditS.calls k _ _ l0_1 t272 t273 _ ?side1 ?side2 A7.out).mono ?_); (case side1 => repeat (first | exact (Kd.C_below HR0_1.out (bb1_ HB GE271)) | (with_reducible first | apply cA_ | apply cN_ | apply cD_))); (case side2 => exact HC0_1.out); rintro e w11 ⟨rfl, hb⟩; refine ⟨_, rfl, ?_⟩; have n0_ := Aside0.mk (lb_ BK271 hb); have n1_ := Aside0.mk (below_step (bb1_ HB GE271) hb); clear BK271; clear HB; have BK271 := n0_; have HB := n1_; clear n0_ n1_; (try clear hb); (try clear hb2); (try clear hk); (try clear hi)))
   go_ret
   exact ⟨by first | rfl | (simp [errW_none, errW_some] <;> rfl) | (simp [*, errW_none, errW_some] <;> rfl), bb1_ HB GE271⟩
  ·rw [if_neg c8] at H
   have c8b0 : decide (t273 < 0) = false := decide_eq_false c8
   clear c8
   replace H := Option.bind_eq_some_iff.mp H
   obtain ⟨t274, A120, H⟩ := H
   try dsimp only at H
   have A12 := Aside0.mk A120
   clear A120
   by_cases c13 : t274 < 0
   ·rw [if_pos c13] at H
    have c13b0 : decide (t274 < 0) = true := decide_eq_true c13
    clear c13
    obtain rfl := Option.some.inj H
    go_enter Try.func28, Try.ntmps28
    go_wp2_with (first | ((with_reducible refine gate_dst (N := 2) rfl ?_); refine box_event ?hg (N := 2) ?hd (cs := #[.slice A0_0 l0_0.length c0_0, .slice A0_1 l0_1.length c0_1, .slice A0_2 l0_2.length c0_2]) (t := 45) ?hr ?_; (case hd => rfl); (case hg => rfl); (case hr => first | (go_simp; done) | (go_simp; rfl)); intro gb271 hg w14 hbox hb; have n0_ := Aside0.mk (bt_ HB hb); have n1_ := Aside0.mk (hbox); have n2_ := gz_ hg HB; have n3_ := gz_ hg HB; clear HB; have HB := n0_; have BK271 := n1_; have GW271 := n2_; have GE271 := n3_; clear n0_ n1_ n2_ n3_; clear hb hbox hg; have hcz15_0 := cz0_ BK271; have hcz15_1 := cz1_ BK271; have hcz15_2 := cz2_ BK271; have hfz15_0 := fz_ BK271 0; have hfz15_1 := fz_ BK271 1; have hfz15_2 := fz_ BK271 2) | ((with_reducible refine gate_callee (f := 19) rfl ?_); refine goesL_ (some 8) rfl rfl Try.func19 (by kernel_rfl) rfl #[.slice A0_0 l0_0.length c0_0, .int .i64 a1] rfl args_ ?_; (with_reducible refine (laws_szStringS.calls k _ _ l0_0 a1 t272 _ ?side1 ?side2 A3.out).mono ?_); (case side1 => exact cb_ HR0_0 HB); (case side2 => exact HC0_0.out); rintro e w' ⟨rfl, ⟨nd, rfl⟩⟩; refine ⟨_, rfl, ?_⟩) | ((with_reducible refine gate_callee (f := 58) rfl ?_); refine goesL_ (some 14) rfl rfl Try.func58 (by kernel_rfl) rfl #[.slice A0_1 l0_1.length c0_1, .int .i64 t272] rfl args_ ?_; (with_reducible refine (laws_szDeskEditS.calls k _ _ l0_1 t272 t273 _ ?side1 ?side2 A7.out).mono ?_); (case side1 => repeat (first | exact (Kd.C_below HR0_1.out (bb1_ HB GE271)) | (with_reducible first | apply cA_ | apply cN_ | apply cD_))); (case side2 => exact HC0_1.out); rintro e w16 ⟨rfl, hb⟩; refine ⟨_, rfl, ?_⟩; have n0_ := Aside0.mk (lb_ BK271 hb); have n1_ := Aside0.mk (below_step (bb1_ HB GE271) hb); clear BK271; clear HB; have BK271 := n0_; have HB := n1_; clear n0_ n1_; (try clear hb); (try clear hb2); (try clear hk); (try clear hi); have hcz17_0 := cz0_ BK271; have hcz17_1 := cz1_ BK271; have hcz17_2 := cz2_ BK271; have hfz17_0 := fz_ BK271 0; have hfz17_1 := fz_ BK271 1; have hfz17_2 := fz_ BK271 2) | ((with_reducible refine gate_callee (f := 58) rfl ?_); refine goesL_ (some 20) rfl rfl Try.func58 (by kernel_rfl) rfl #[.slice A0_2 l0_2.length c0_2, .int .i64 t273] rfl args_ ?_; (with_reducible refine (laws_szDeskEditS.calls k _ _ l0_2 t273 t274 _ ?side1 ?side2 A12.out).mono ?_); (case side1 => exact cb_ HR0_2 HB); (case side2 => exact HC0_2.out); rintro e w18 ⟨rfl, hb⟩; refine ⟨_, rfl, ?_⟩; have n0_ := Aside0.mk (lb_ BK271 hb); have n1_ := Aside0.mk (below_step (bb1_ HB GE271) hb); clear BK271; clear HB; have BK271 := n0_; have HB := n1_; clear n0_ n1_; (try clear hb); (try clear hb2); (try clear hk); (try clear hi)))
    go_ret
    exact ⟨by first | rfl | (simp [errW_none, errW_some] <;> rfl) | (simp [*, errW_none, errW_some] <;> rfl), bb1_ HB GE271⟩
   ·rw [if_neg c13] at H
    have c13b0 : decide (t274 < 0) = false := decide_eq_false c13
    clear c13
    obtain rfl := Option.some.inj H
    go_enter Try.func28, Try.ntmps28
    go_wp2_with (first | ((with_reducible refine gate_dst (N := 2) rfl ?_); refine box_event ?hg (N := 2) ?hd (cs := #[.slice A0_0 l0_0.length c0_0, .slice A0_1 l0_1.length c0_1, .slice A0_2 l0_2.length c0_2]) (t := 45) ?hr ?_; (case hd => rfl); (case hg => rfl); (case hr => first | (go_simp; done) | (go_simp; rfl)); intro gb271 hg w19 hbox hb; have n0_ := Aside0.mk (bt_ HB hb); have n1_ := Aside0.mk (hbox); have n2_ := gz_ hg HB; have n3_ := gz_ hg HB; clear HB; have HB := n0_; have BK271 := n1_; have GW271 := n2_; have GE271 := n3_; clear n0_ n1_ n2_ n3_; clear hb hbox hg; have hcz20_0 := cz0_ BK271; have hcz20_1 := cz1_ BK271; have hcz20_2 := cz2_ BK271; have hfz20_0 := fz_ BK271 0; have hfz20_1 := fz_ BK271 1; have hfz20_2 := fz_ BK271 2) | ((with_reducible refine gate_callee (f := 19) rfl ?_); refine goesL_ (some 8) rfl rfl Try.func19 (by kernel_rfl) rfl #[.slice A0_0 l0_0.length c0_0, .int .i64 a1] rfl args_ ?_; (with_reducible refine (laws_szStringS.calls k _ _ l0_0 a1 t272 _ ?side1 ?side2 A3.out).mono ?_); (case side1 => exact cb_ HR0_0 HB); (case side2 => exact HC0_0.out); rintro e w' ⟨rfl, ⟨nd, rfl⟩⟩; refine ⟨_, rfl, ?_⟩) | ((with_reducible refine gate_callee (f := 58) rfl ?_); refine goesL_ (some 14) rfl rfl Try.func58 (by kernel_rfl) rfl #[.slice A0_1 l0_1.length c0_1, .int .i64 t272] rfl args_ ?_; (with_reducible refine (laws_szDeskEditS.calls k _ _ l0_1 t272 t273 _ ?side1 ?side2 A7.out).mono ?_); (case side1 => repeat (first | exact (Kd.C_below HR0_1.out (bb1_ HB GE271)) | (with_reducible first | apply cA_ | apply cN_ | apply cD_))); (case side2 => exact HC0_1.out); rintro e w21 ⟨rfl, hb⟩; refine ⟨_, rfl, ?_⟩; have n0_ := Aside0.mk (lb_ BK271 hb); have n1_ := Aside0.mk (below_step (bb1_ HB GE271) hb); clear BK271; clear HB; have BK271 := n0_; have HB := n1_; clear n0_ n1_; (try clear hb); (try clear hb2); (try clear hk); (try clear hi); have hcz22_0 := cz0_ BK271; have hcz22_1 := cz1_ BK271; have hcz22_2 := cz2_ BK271; have hfz22_0 := fz_ BK271 0; have hfz22_1 := fz_ BK271 1; have hfz22_2 := fz_ BK271 2) | ((with_reducible refine gate_callee (f := 58) rfl ?_); refine goesL_ (some 20) rfl rfl Try.func58 (by kernel_rfl) rfl #[.slice A0_2 l0_2.length c0_2, .int .i64 t273] rfl args_ ?_; (with_reducible refine (laws_szDeskEditS.calls k _ _ l0_2 t273 t274 _ ?side1 ?side2 A12.out).mono ?_); (case side1 => exact cb_ HR0_2 HB); (case side2 => exact HC0_2.out); rintro e w23 ⟨rfl, hb⟩; refine ⟨_, rfl, ?_⟩; have n0_ := Aside0.mk (lb_ BK271 hb); have n1_ := Aside0.mk (below_step (bb1_ HB GE271) hb); clear BK271; clear HB; have BK271 := n0_; have HB := n1_; clear n0_ n1_; (try clear hb); (try clear hb2); (try clear hk); (try clear hi)))
    go_ret
    exact ⟨by first | rfl | (simp [errW_none, errW_some] <;> rfl) | (simp [*, errW_none, errW_some] <;> rfl), bb1_ HB GE271⟩

/-! ### spec_unMake: function 84 -/
def spec_unMake.j0 : Nat → List ByteArray → Bool → Int → Int → ByteArray → ByteArray → Option (List ByteArray × Bool)
 | 0, _, _, _, _, _, _ => none
 | k + 1, x0, x52, x276000, x276001, x276002, x276003 => if x52 = true then (some (([] : List ByteArray), false)) else ((some (([] : List ByteArray) : List ByteArray)).bind fun y295 => (if 0 ≤ x276001 then (if x276001 ≤ (x0.length : Int) then (if y295.length + (x0.take (x276001 : Int).toNat).length < 8796093022208 then ((some (y295 ++ (x0.take (x276001 : Int).toNat) : List ByteArray)).bind fun y299 => (if x276000 = 2 then ((some (([x276002] : List ByteArray) : List ByteArray)).bind fun y302 => (if y299.length + y302.length < 8796093022208 then ((some (y299 ++ y302 : List ByteArray)).bind fun y305 => (if 0 ≤ (wrap64 (x276001 + 1)) then (if (wrap64 (x276001 + 1)) ≤ (x0.length : Int) then (if y305.length + (x0.drop ((wrap64 (x276001 + 1)) : Int).toNat).length < 8796093022208 then (some ((y305 ++ (x0.drop ((wrap64 (x276001 + 1)) : Int).toNat)), true)) else (none)) else (none)) else (none))) else (none))) else (if 0 ≤ (wrap64 (x276001 + 1)) then (if (wrap64 (x276001 + 1)) ≤ (x0.length : Int) then (if y299.length + (x0.drop ((wrap64 (x276001 + 1)) : Int).toNat).length < 8796093022208 then (some ((y299 ++ (x0.drop ((wrap64 (x276001 + 1)) : Int).toNat)), true)) else (none)) else (none)) else (none)))) else (none)) else (none)) else (none)))
def spec_unMake.f (k : Nat) (l0 : List ByteArray) (a1_0 : Int) (a1_1 : Int) (a1_2 : ByteArray) (a1_3 : ByteArray) : Option (List ByteArray × Bool) := (spec_unEdit.f k a1_0 a1_1 a1_2 a1_3).bind fun t276 => (if t276 = true then (if a1_0 = 0 then (if a1_1 > (l0.length : Int) then (some (([] : List ByteArray), false)) else (if (l0.length : Int) = 20 then (some (([] : List ByteArray), false)) else ((some (([] : List ByteArray) : List ByteArray)).bind fun y277 => (if 0 ≤ a1_1 then (if a1_1 ≤ (l0.length : Int) then (if y277.length + (l0.take (a1_1 : Int).toNat).length < 8796093022208 then ((some (y277 ++ (l0.take (a1_1 : Int).toNat) : List ByteArray)).bind fun y281 => ((some (([a1_2] : List ByteArray) : List ByteArray)).bind fun y284 => (if y281.length + y284.length < 8796093022208 then ((some (y281 ++ y284 : List ByteArray)).bind fun y287 => (if y287.length + (l0.drop (a1_1 : Int).toNat).length < 8796093022208 then (some ((y287 ++ (l0.drop (a1_1 : Int).toNat)), true)) else (none))) else (none)))) else (none)) else (none)) else (none))))) else (if a1_1 ≥ (l0.length : Int) then (spec_unMake.j0 k l0 true a1_0 a1_1 a1_2 a1_3) else (if 0 ≤ a1_1 then (if a1_1 < (l0.length : Int) then (spec_unMake.j0 k l0 ((rdOf ByteArray.empty l0 a1_1).toList != a1_3.toList) a1_0 a1_1 a1_2 a1_3) else (none)) else (none)))) else (some (([] : List ByteArray), false)))
theorem spec_unMake.mono_l : ∀ k, (∀ y0 y1 y2 y3 y4 y5, LeO (spec_unMake.j0 k y0 y1 y2 y3 y4 y5) (spec_unMake.j0 (k + 1) y0 y1 y2 y3 y4 y5))
 | 0 => fun _ _ _ _ _ _ r h => by simp [spec_unMake.j0] at h
 | k + 1 => by
  have ih0 := spec_unMake.mono_l k
  ·intro y0 y1 y2 y3 y4 y5
   unfold spec_unMake.j0
   repeat' first
   | (with_reducible exact ih0 _ _ _ _ _ _)
   | (with_reducible exact spec_unEdit.mono _ _ _ _ _)
   | (with_reducible exact LeO.refl _)
   | (with_reducible exact LeO.none _)
   | (with_reducible refine LeO.ite ?_ ?_)
   | (with_reducible refine LeO.bind ?_ (fun _ => ?_))
   | exact ih0 _ _ _ _ _ _
   | exact LeO.none _
   | refine LeO.ite ?_ ?_
   | refine LeO.bind ?_ (fun _ => ?_)
theorem spec_unMake.mono : ∀ a0 a1 a2 a3 a4 k, LeO (spec_unMake.f k a0 a1 a2 a3 a4) (spec_unMake.f (k + 1) a0 a1 a2 a3 a4) := by
 intro a0 a1 a2 a3 a4 k
 have ih0 := spec_unMake.mono_l k
 unfold spec_unMake.f
 repeat' first
   | (with_reducible exact ih0 _ _ _ _ _ _)
   | (with_reducible exact spec_unEdit.mono _ _ _ _ _)
   | (with_reducible exact LeO.refl _)
   | (with_reducible exact LeO.none _)
   | (with_reducible refine LeO.ite ?_ ?_)
   | (with_reducible refine LeO.bind ?_ (fun _ => ?_))
   | exact ih0 _ _ _ _ _ _
   | exact LeO.none _
   | refine LeO.ite ?_ ?_
   | refine LeO.bind ?_ (fun _ => ?_)
def spec_unMake.T6 : Bool × List (List Nat × List Nat) := (true, [([], []), ([], []), ([], []), ([2], [2]), ([1, 3], [1, 3]), ([0, 4], [0, 4]), ([], []), ([6], [6]), ([7], [7]), ([5, 8, 5], [5, 8]), ([], []), ([], []), ([11], [11]), ([10, 12], [10, 12]), ([9, 13, 9], [9, 13]), ([14, 14, 0, 1, 2, 3, 4, 5, 6, 7, 8, 9, 10, 11, 12, 13, 14], [14]), ([15, 0, 1, 2, 3, 4, 5, 6, 7, 8, 9, 10, 11, 12, 13, 14, 15], [])])
def spec_unMake.B6 : List Nat := [0, 0, 0, 4, 14, 31, 0, 64, 192, 511, 0, 0, 2048, 7168, 16383, 32767, 65535]
theorem spec_unMake.tab6 : rtab .any (opsOf Try.f84 6) = spec_unMake.T6 := by kernel_rfl
theorem spec_unMake.bits6 : waitsOk spec_unMake.T6.2 spec_unMake.B6 = true := by kernel_rfl
def spec_unMake.T7 : Bool × List (List Nat × List Nat) := (true, [([], []), ([0], [0]), ([], []), ([2], [2]), ([1, 3], [1, 3]), ([4], [4]), ([5], [5]), ([5], [5]), ([7, 5], [5, 7]), ([6, 8, 5], [5, 6, 8]), ([9, 5], [5, 9]), ([5], [5]), ([11, 5], [5, 11]), ([10, 12, 5], [5, 10, 12]), ([5, 13], [5, 13])])
def spec_unMake.B7 : List Nat := [0, 1, 0, 4, 15, 31, 63, 63, 191, 511, 1023, 63, 2111, 8191, 16383]
theorem spec_unMake.tab7 : rtab .any (opsOf Try.f84 7) = spec_unMake.T7 := by kernel_rfl
theorem spec_unMake.bits7 : waitsOk spec_unMake.T7.2 spec_unMake.B7 = true := by kernel_rfl
set_option maxHeartbeats 8000000 in
set_option maxRecDepth 100000 in
theorem spec_unMake.calls (k : Nat) (A0 : Option Addr) (c0 : Nat) (l0 : List ByteArray) (a1_0 : Int) (a1_1 : Int) (a1_2 : ByteArray) (a1_3 : ByteArray) (r1 : List ByteArray) (r2 : Bool) (w : World) (hr0 : Kd.C Kd.string w A0 l0.length l0) (hc0 : l0.length ≤ c0) (h : spec_unMake.f k l0 a1_0 a1_1 a1_2 a1_3 = some (r1, r2)) :
  Calls Try.prog 84 #[.slice A0 l0.length c0, .agg #[.int .i64 a1_0, .int .i64 a1_1, .string a1_2, .string a1_3]] w fun e w' => ∃ v0_ : Value, e = .returned (.tuple #[v0_, .bool r2]) ∧ Kd.R Kd.string 9 w' w.heap.size (fun _ => True) v0_ r1 ∧ Below w.heap.size w w' := by
 have hu25 := Try.underlying25
 have HR0 := Aside0.mk hr0
 have HC0 := Aside0.mk hc0
 clear hr0 hc0
 have HB := Aside0.mk (Below.refl w.heap.size w)
 have H : ((spec_unEdit.f k a1_0 a1_1 a1_2 a1_3).bind fun t276 => (if t276 = true then (if a1_0 = 0 then (if a1_1 > (l0.length : Int) then (some (([] : List ByteArray), false)) else (if (l0.length : Int) = 20 then (some (([] : List ByteArray), false)) else ((some (([] : List ByteArray) : List ByteArray)).bind fun y277 => (if 0 ≤ a1_1 then (if a1_1 ≤ (l0.length : Int) then (if y277.length + (l0.take (a1_1 : Int).toNat).length < 8796093022208 then ((some (y277 ++ (l0.take (a1_1 : Int).toNat) : List ByteArray)).bind fun y281 => ((some (([a1_2] : List ByteArray) : List ByteArray)).bind fun y284 => (if y281.length + y284.length < 8796093022208 then ((some (y281 ++ y284 : List ByteArray)).bind fun y287 => (if y287.length + (l0.drop (a1_1 : Int).toNat).length < 8796093022208 then (some ((y287 ++ (l0.drop (a1_1 : Int).toNat)), true)) else (none))) else (none)))) else (none)) else (none)) else (none))))) else (if a1_1 ≥ (l0.length : Int) then (spec_unMake.j0 k l0 true a1_0 a1_1 a1_2 a1_3) else (if 0 ≤ a1_1 then (if a1_1 < (l0.length : Int) then (spec_unMake.j0 k l0 ((rdOf ByteArray.empty l0 a1_1).toList != a1_3.toList) a1_0 a1_1 a1_2 a1_3) else (none)) else (none)))) else (some (([] : List ByteArray), false)))) = some (r1, r2) := h
 clear h
 replace H := Option.bind_eq_some_iff.mp H
 obtain ⟨t276, A30, H⟩ := H
 try dsimp only at H
 have A3 := Aside0.mk A30
 clear A30
 by_cases c4 : t276 = true
 ·subst c4
  have H1 : (if a1_0 = 0 then (if a1_1 > (l0.length : Int) then (some (([] : List ByteArray), false)) else (if (l0.length : Int) = 20 then (some (([] : List ByteArray), false)) else ((some (([] : List ByteArray) : List ByteArray)).bind fun y277 => (if 0 ≤ a1_1 then (if a1_1 ≤ (l0.length : Int) then (if y277.length + (l0.take (a1_1 : Int).toNat).length < 8796093022208 then ((some (y277 ++ (l0.take (a1_1 : Int).toNat) : List ByteArray)).bind fun y281 => ((some (([a1_2] : List ByteArray) : List ByteArray)).bind fun y284 => (if y281.length + y284.length < 8796093022208 then ((some (y281 ++ y284 : List ByteArray)).bind fun y287 => (if y287.length + (l0.drop (a1_1 : Int).toNat).length < 8796093022208 then (some ((y287 ++ (l0.drop (a1_1 : Int).toNat)), true)) else (none))) else (none)))) else (none)) else (none)) else (none))))) else (if a1_1 ≥ (l0.length : Int) then (spec_unMake.j0 k l0 true a1_0 a1_1 a1_2 a1_3) else (if 0 ≤ a1_1 then (if a1_1 < (l0.length : Int) then (spec_unMake.j0 k l0 ((rdOf ByteArray.empty l0 a1_1).toList != a1_3.toList) a1_0 a1_1 a1_2 a1_3) else (none)) else (none)))) = some (r1, r2) := by rw [if_pos rfl] at H; exact H
  clear H
  have H := H1
  clear H1
  by_cases c5 : a1_0 = 0
  ·rw [if_pos c5] at H
   have c5b0 : (a1_0 == 0) = true := beq_iff_eq.mpr c5
   have c5b1 : (a1_0 != 0) = false := bne_eq_false_iff_eq.mpr c5
   clear c5
   by_cases c6 : a1_1 > (l0.length : Int)
   ·rw [if_pos c6] at H
    have c6b0 : decide ((l0.length : Int) < a1_1) = true := decide_eq_true c6
    clear c6
    simp only [Option.some.injEq, Prod.mk.injEq] at H
    obtain ⟨rfl, rfl⟩ := H
    go_enter Try.func84, Try.ntmps84
    go_wp2_with (first | ((with_reducible refine gate_dst (N := 3) rfl ?_); (try (refine gate_guard (by rfl) ?_; dsimp only)); refine box_event ?hg (N := 3) ?hd (cs := #[.int .i64 a1_0, .int .i64 a1_1, .string a1_2, .string a1_3]) (t := 25) ?hr ?_; (case hd => rfl); (case hg => rfl); (case hr => first | (go_simp; done) | (go_simp; rfl)); intro gb275 hg w7 hbox hb; have n0_ := Aside0.mk (bt_ HB hb); have n1_ := Aside0.mk (hbox); have n2_ := gz_ hg HB; have n3_ := gz_ hg HB; clear HB; have HB := n0_; have BK275 := n1_; have GW275 := n2_; have GE275 := n3_; clear n0_ n1_ n2_ n3_; clear hb hbox hg; have hcz8_0 := cz0_ BK275; have hcz8_1 := cz1_ BK275; have hcz8_2 := cz2_ BK275; have hcz8_3 := cz3_ BK275; have hfz8_0 := fz_ BK275 0; have hfz8_1 := fz_ BK275 1; have hfz8_2 := fz_ BK275 2; have hfz8_3 := fz_ BK275 3) | ((with_reducible refine gate_callee (f := 49) rfl ?_); refine goesL_ (some 8) rfl rfl Try.func49 (by kernel_rfl) rfl #[.agg #[.int .i64 a1_0, .int .i64 a1_1, .string a1_2, .string a1_3]] rfl args_ ?_; (with_reducible refine (spec_unEdit.calls k a1_0 a1_1 a1_2 a1_3 true _ A3.out).mono ?_); rintro e w9 ⟨rfl, hb⟩; refine ⟨_, rfl, ?_⟩; have n0_ := Aside0.mk (lb_ BK275 hb); have n1_ := Aside0.mk (below_step (bb1_ HB GE275) hb); clear BK275; clear HB; have BK275 := n0_; have HB := n1_; clear n0_ n1_; (try clear hb); (try clear hb2); (try clear hk); (try clear hi); have hcz10_0 := cz0_ BK275; have hcz10_1 := cz1_ BK275; have hcz10_2 := cz2_ BK275; have hcz10_3 := cz3_ BK275; have hfz10_0 := fz_ BK275 0; have hfz10_1 := fz_ BK275 1; have hfz10_2 := fz_ BK275 2; have hfz10_3 := fz_ BK275 3))
    go_ret2
    exact ⟨_, by first | rfl | (simp [errW_none, errW_some] <;> rfl) | (simp [*, errW_none, errW_some] <;> rfl), by first | exact Kd.R_nil _ _ _ _ _ | exact Kd.N_nil _ _ _ _ _ | exact Kd.V_nil _ _ _ _ _ | exact Kd.Q_nil _ _ _ _ _ | exact Kd.S_nil _ _ _ _ _, bb1_ HB GE275⟩
   ·rw [if_neg c6] at H
    have c6b0 : decide ((l0.length : Int) < a1_1) = false := decide_eq_false c6
    clear c6
    by_cases c11 : (l0.length : Int) = 20
    ·rw [if_pos c11] at H
     have c11b0 : ((l0.length : Int) == 20) = true := beq_iff_eq.mpr c11
     have c11b1 : ((l0.length : Int) != 20) = false := bne_eq_false_iff_eq.mpr c11
     clear c11
     simp only [Option.some.injEq, Prod.mk.injEq] at H
     obtain ⟨rfl, rfl⟩ := H
     go_enter Try.func84, Try.ntmps84
     go_wp2_with (first | ((with_reducible refine gate_dst (N := 3) rfl ?_); (try (refine gate_guard (by rfl) ?_; dsimp only)); refine box_event ?hg (N := 3) ?hd (cs := #[.int .i64 a1_0, .int .i64 a1_1, .string a1_2, .string a1_3]) (t := 25) ?hr ?_; (case hd => rfl); (case hg => rfl); (case hr => first | (go_simp; done) | (go_simp; rfl)); intro gb275 hg w12 hbox hb; have n0_ := Aside0.mk (bt_ HB hb); have n1_ := Aside0.mk (hbox); have n2_ := gz_ hg HB; have n3_ := gz_ hg HB; clear HB; have HB := n0_; have BK275 := n1_; have GW275 := n2_; have GE275 := n3_; clear n0_ n1_ n2_ n3_; clear hb hbox hg; have hcz13_0 := cz0_ BK275; have hcz13_1 := cz1_ BK275; have hcz13_2 := cz2_ BK275; have hcz13_3 := cz3_ BK275; have hfz13_0 := fz_ BK275 0; have hfz13_1 := fz_ BK275 1; have hfz13_2 := fz_ BK275 2; have hfz13_3 := fz_ BK275 3) | ((with_reducible refine gate_callee (f := 49) rfl ?_); refine goesL_ (some 8) rfl rfl Try.func49 (by kernel_rfl) rfl #[.agg #[.int .i64 a1_0, .int .i64 a1_1, .string a1_2, .string a1_3]] rfl args_ ?_; (with_reducible refine (spec_unEdit.calls k a1_0 a1_1 a1_2 a1_3 true _ A3.out).mono ?_); rintro e w14 ⟨rfl, hb⟩; refine ⟨_, rfl, ?_⟩; have n0_ := Aside0.mk (lb_ BK275 hb); have n1_ := Aside0.mk (below_step (bb1_ HB GE275) hb); clear BK275; clear HB; have BK275 := n0_; have HB := n1_; clear n0_ n1_; (try clear hb); (try clear hb2); (try clear hk); (try clear hi); have hcz15_0 := cz0_ BK275; have hcz15_1 := cz1_ BK275; have hcz15_2 := cz2_ BK275; have hcz15_3 := cz3_ BK275; have hfz15_0 := fz_ BK275 0; have hfz15_1 := fz_ BK275 1; have hfz15_2 := fz_ BK275 2; have hfz15_3 := fz_ BK275 3))
     go_ret2
     exact ⟨_, by first | rfl | (simp [errW_none, errW_some] <;> rfl) | (simp [*, errW_none, errW_some] <;> rfl), by first | exact Kd.R_nil _ _ _ _ _ | exact Kd.N_nil _ _ _ _ _ | exact Kd.V_nil _ _ _ _ _ | exact Kd.Q_nil _ _ _ _ _ | exact Kd.S_nil _ _ _ _ _, bb1_ HB GE275⟩
    ·rw [if_neg c11] at H
     have c11b0 : ((l0.length : Int) == 20) = false := beq_eq_false_iff_ne.mpr c11
     have c11b1 : ((l0.length : Int) != 20) = true := bne_iff_ne.mpr c11
     obtain ⟨y277, hy277⟩ : ∃ y_ : List ByteArray, y_ = (([] : List ByteArray)) := ⟨_, rfl⟩
     replace H : (if 0 ≤ a1_1 then (if a1_1 ≤ (l0.length : Int) then (if y277.length + (l0.take (a1_1 : Int).toNat).length < 8796093022208 then ((some (y277 ++ (l0.take (a1_1 : Int).toNat) : List ByteArray)).bind fun y281 => ((some (([a1_2] : List ByteArray) : List ByteArray)).bind fun y284 => (if y281.length + y284.length < 8796093022208 then ((some (y281 ++ y284 : List ByteArray)).bind fun y287 => (if y287.length + (l0.drop (a1_1 : Int).toNat).length < 8796093022208 then (some ((y287 ++ (l0.drop (a1_1 : Int).toNat)), true)) else (none))) else (none)))) else (none)) else (none)) else (none)) = some (r1, r2) := by first | (rw [hy277]; with_reducible exact H) | (have H2_ := (Option.bind_some _ _).symm.trans H; rw [hy277]; with_reducible exact H2_) | (have H2_ := (Option.bind_some _ _).symm.trans H; with_reducible exact H2_) | with_reducible exact H | (rw [hy277]; exact H) | exact H
     have Ny277 := Aside0.mk hy277
     clear hy277
     by_cases c16 : 0 ≤ a1_1
     ·rw [if_pos c16] at H
      have c16b0 := eq_true c16
      have c16b1 : decide (0 ≤ a1_1) = true := decide_eq_true c16
      clear c16
      by_cases c17 : a1_1 ≤ (l0.length : Int)
      ·rw [if_pos c17] at H
       have c17b0 := eq_true c17
       have c17b1 : decide (a1_1 ≤ (l0.length : Int)) = true := decide_eq_true c17
       clear c17
       by_cases c18 : y277.length + (l0.take (a1_1 : Int).toNat).length < 8796093022208
       ·rw [if_pos c18] at H
        have LMc18 := Aside0.mk c18
        clear c18
        obtain ⟨y281, hy281⟩ : ∃ y_ : List ByteArray, y_ = (y277 ++ (l0.take (a1_1 : Int).toNat)) := ⟨_, rfl⟩
        replace H : ((some (([a1_2] : List ByteArray) : List ByteArray)).bind fun y284 => (if y281.length + y284.length < 8796093022208 then ((some (y281 ++ y284 : List ByteArray)).bind fun y287 => (if y287.length + (l0.drop (a1_1 : Int).toNat).length < 8796093022208 then (some ((y287 ++ (l0.drop (a1_1 : Int).toNat)), true)) else (none))) else (none))) = some (r1, r2) := by first | (rw [hy281]; with_reducible exact H) | (have H2_ := (Option.bind_some _ _).symm.trans H; rw [hy281]; with_reducible exact H2_) | (have H2_ := (Option.bind_some _ _).symm.trans H; with_reducible exact H2_) | with_reducible exact H | (rw [hy281]; exact H) | exact H
        have Ny281 := Aside0.mk hy281
        clear hy281
        obtain ⟨y284, hy284⟩ : ∃ y_ : List ByteArray, y_ = (([a1_2] : List ByteArray)) := ⟨_, rfl⟩
        replace H : (if y281.length + y284.length < 8796093022208 then ((some (y281 ++ y284 : List ByteArray)).bind fun y287 => (if y287.length + (l0.drop (a1_1 : Int).toNat).length < 8796093022208 then (some ((y287 ++ (l0.drop (a1_1 : Int).toNat)), true)) else (none))) else (none)) = some (r1, r2) := by first | (rw [hy284]; with_reducible exact H) | (have H2_ := (Option.bind_some _ _).symm.trans H; rw [hy284]; with_reducible exact H2_) | (have H2_ := (Option.bind_some _ _).symm.trans H; with_reducible exact H2_) | with_reducible exact H | (rw [hy284]; exact H) | exact H
        have Ny284 := Aside0.mk hy284
        clear hy284
        by_cases c19 : y281.length + y284.length < 8796093022208
        ·rw [if_pos c19] at H
         have LMc19 := Aside0.mk c19
         clear c19
         obtain ⟨y287, hy287⟩ : ∃ y_ : List ByteArray, y_ = (y281 ++ y284) := ⟨_, rfl⟩
         replace H : (if y287.length + (l0.drop (a1_1 : Int).toNat).length < 8796093022208 then (some ((y287 ++ (l0.drop (a1_1 : Int).toNat)), true)) else (none)) = some (r1, r2) := by first | (rw [hy287]; with_reducible exact H) | (have H2_ := (Option.bind_some _ _).symm.trans H; rw [hy287]; with_reducible exact H2_) | (have H2_ := (Option.bind_some _ _).symm.trans H; with_reducible exact H2_) | with_reducible exact H | (rw [hy287]; exact H) | exact H
         have Ny287 := Aside0.mk hy287
         clear hy287
         have c20b0 := eq_true (of_decide_eq_true as_ : 0 ≤ a1_1)
         have c21b0 := eq_true (of_decide_eq_true as_ : a1_1 ≤ (l0.length : Int))
         by_cases c22 : y287.length + (l0.drop (a1_1 : Int).toNat).length < 8796093022208
         ·rw [if_pos c22] at H
          have LMc22 := Aside0.mk c22
          clear c22
          obtain ⟨y291, hy291⟩ : ∃ y_ : List ByteArray, y_ = (y287 ++ (l0.drop (a1_1 : Int).toNat)) := ⟨_, rfl⟩
          replace H : (some (y291, true)) = some (r1, r2) := by first | (rw [hy291]; with_reducible exact H) | (have H2_ := (Option.bind_some _ _).symm.trans H; rw [hy291]; with_reducible exact H2_) | (have H2_ := (Option.bind_some _ _).symm.trans H; with_reducible exact H2_) | with_reducible exact H | (rw [hy291]; exact H) | exact H
          have Ny291 := Aside0.mk hy291
          clear hy291
          simp only [Option.some.injEq, Prod.mk.injEq] at H
          obtain ⟨rfl, rfl⟩ := H
          go_enter Try.func84, Try.ntmps84
          try go_wp2_with (first | ((with_reducible refine gate_dst (N := 3) rfl ?_); (try (refine gate_guard (by rfl) ?_; dsimp only)); refine box_event ?hg (N := 3) ?hd (cs := #[.int .i64 a1_0, .int .i64 a1_1, .string a1_2, .string a1_3]) (t := 25) ?hr ?_; (case hd => rfl); (case hg => rfl); (case hr => first | (go_simp; done) | (go_simp; rfl)); intro gb275 hg w23 hbox hb; have n0_ := Aside0.mk (bt_ HB hb); have n1_ := Aside0.mk (hbox); have n2_ := gz_ hg HB; have n3_ := gz_ hg HB; clear HB; have HB := n0_; have BK275 := n1_; have GW275 := n2_; have GE275 := n3_; clear n0_ n1_ n2_ n3_; clear hb hbox hg; have hcz24_0 := cz0_ BK275; have hcz24_1 := cz1_ BK275; have hcz24_2 := cz2_ BK275; have hcz24_3 := cz3_ BK275; have hfz24_0 := fz_ BK275 0; have hfz24_1 := fz_ BK275 1; have hfz24_2 := fz_ BK275 2; have hfz24_3 := fz_ BK275 3) | ((with_reducible refine gate_callee (f := 49) rfl ?_); refine goesL_ (some 8) rfl rfl Try.func49 (by kernel_rfl) rfl #[.agg #[.int .i64 a1_0, .int .i64 a1_1, .string a1_2, .string a1_3]] rfl args_ ?_; (with_reducible refine (spec_unEdit.calls k a1_0 a1_1 a1_2 a1_3 true _ A3.out).mono ?_); rintro e w25 ⟨rfl, hb⟩; refine ⟨_, rfl, ?_⟩; have n0_ := Aside0.mk (lb_ BK275 hb); have n1_ := Aside0.mk (below_step (bb1_ HB GE275) hb); clear BK275; clear HB; have BK275 := n0_; have HB := n1_; clear n0_ n1_; (try clear hb); (try clear hb2); (try clear hk); (try clear hi); have hcz26_0 := cz0_ BK275; have hcz26_1 := cz1_ BK275; have hcz26_2 := cz2_ BK275; have hcz26_3 := cz3_ BK275; have hfz26_0 := fz_ BK275 0; have hfz26_1 := fz_ BK275 1; have hfz26_2 := fz_ BK275 2; have hfz26_3 := fz_ BK275 3))
          have n0_ := Aside0.mk (blk_drew BK275.out)
          have n1_ := Aside0.mk (below_drew1 HB.out)
          clear BK275
          clear HB
          have BK275 := n0_
          have HB := n1_
          clear n0_ n1_
          obtain ⟨i028, hi028, _, hsz28, _⟩ := info_parts info9
          obtain ⟨hcut28, hA28, hC28⟩ := print_take_of (P := Try.prog) Value.string (⟨#[]⟩ : ByteArray) 31 9 .i64 Try.underlying31 hi028 hsz28 A0 c0 l0 a1_1 (of_decide_eq_true as_) (of_decide_eq_true as_) HC0.out
          have HR280 := Aside0.mk (Kd.C_of_reads (h1 := fun _ => rfl) (hA28 _ (Kd.reads_of_C HR0.out)))
          have HC280 := Aside0.mk hC28
          clear hA28 hC28 hi028 hsz28
          obtain ⟨i029, hi029, _, hsz29, _⟩ := info_parts info9
          obtain ⟨A29, hcut29, hA29, hC29⟩ := print_drop_of (P := Try.prog) Value.string (⟨#[]⟩ : ByteArray) 31 9 .i64 Try.underlying31 hi029 hsz29 A0 c0 l0 a1_1 (of_decide_eq_true as_) (of_decide_eq_true as_) HC0.out
          have HR290 := Aside0.mk (Kd.C_of_reads (h1 := fun _ => rfl) (hA29 _ (Kd.reads_of_C HR0.out)))
          have HC290 := Aside0.mk hC29
          clear hA29 hC29 hi029 hsz29
          refine start_ (n := 17) (S := fun w' => w'.cell? ⟨gb275, 0, none⟩ = some (.int .i64 a1_0) ∧ w'.cell? ⟨gb275, 1, none⟩ = some (.int .i64 a1_1) ∧ w'.cell? ⟨gb275, 2, none⟩ = some (.string a1_2) ∧ w'.cell? ⟨gb275, 3, none⟩ = some (.string a1_3)) (ds := []) #[false, false, false, false, false, false, false, false, false, false, false, false, false, false, false, false, false] (by kernel_rfl) rfl rfl ⟨(blk_cell BK275.out 0).trans rfl, (blk_cell BK275.out 1).trans rfl, (blk_cell BK275.out 2).trans rfl, (blk_cell BK275.out 3).trans rfl⟩ (fun hHeld => ?_); refine with_tabW spec_unMake.tab6 spec_unMake.bits6 (fun HT_ HW_ => ?_)
          generalize w25.drew = w27 at BK275 HB HR280 HR290 hHeld ⊢
          refine pu_ (i := 1) (N := some 24) (v := ?_) (a' := ?_) #[false, true, false, false, false, false, false, false, false, false, false, false, false, false, false, false, false] rfl rfl (Or.inl ⟨by rfl, ?_⟩) ?_ ?_
          rotate_left
          ·intro w'
           go_simp
           with_reducible rfl
          rotate_left
          ·simp only [Act.put, sA_, sB_, sC_, i64_w, i32_w]
           rfl
          refine pu_ (i := 2) (N := some 25) (v := ?_) (a' := ?_) #[false, true, true, false, false, false, false, false, false, false, false, false, false, false, false, false, false] rfl rfl (Or.inl ⟨by rfl, ?_⟩) ?_ ?_
          rotate_left
          ·intro w'
           go_simp
           with_reducible rfl
          rotate_left
          ·simp only [Act.put, sA_, sB_, sC_, i64_w, i32_w]
           rfl
          refine pu_ (i := 6) (N := some 29) (v := ?_) (a' := ?_) #[false, true, true, false, false, false, true, false, false, false, false, false, false, false, false, false, false] rfl rfl (Or.inl ⟨by rfl, ?_⟩) ?_ ?_
          rotate_left
          ·intro w'
           go_simp
           with_reducible rfl
          rotate_left
          ·simp only [Act.put, sA_, sB_, sC_, i64_w, i32_w]
           rfl
          refine pu_ (i := 10) (N := some 33) (v := ?_) (a' := ?_) #[false, true, true, false, false, false, true, false, false, false, true, false, false, false, false, false, false] rfl rfl (Or.inl ⟨by rfl, ?_⟩) ?_ ?_
          rotate_left
          ·intro w'
           go_simp
           with_reducible rfl
          rotate_left
          ·simp only [Act.put, sA_, sB_, sC_, i64_w, i32_w]
           rfl
          refine pu_ (i := 11) (N := some 34) (v := ?_) (a' := ?_) #[false, true, true, false, false, false, true, false, false, false, true, true, false, false, false, false, false] rfl rfl (Or.inl ⟨by rfl, ?_⟩) ?_ ?_
          rotate_left
          ·intro w'
           go_simp
           with_reducible rfl
          rotate_left
          ·simp only [Act.put, sA_, sB_, sC_, i64_w, i32_w]
           rfl
          refine take_ (i := 3) (N := some 26) (v := ?_) (a' := ?_) #[false, true, true, true, false, false, true, false, false, false, true, true, false, false, false, false, false] rfl rfl (take_ofW HT_.out HW_.out (by kernel_rfl)) (fun _ _ _ h => h) (Or.inl ⟨by rfl, ?_⟩) hHeld ?_ ?_
          rotate_left
          ·rintro w' ⟨s0, s1, s2, s3⟩
           go_simp
           with_reducible rfl
          rotate_left
          ·simp only [Act.put, sA_, sB_, sC_, i64_w, i32_w]
           rfl
          refine pu_ (i := 4) (N := some 27) (v := ?_) (a' := ?_) #[false, true, true, true, true, false, true, false, false, false, true, true, false, false, false, false, false] rfl rfl (Or.inl ⟨by rfl, ?_⟩) ?_ ?_
          rotate_left
          ·intro w'
           go_simp
           with_reducible rfl
          rotate_left
          ·simp only [Act.put, sA_, sB_, sC_, i64_w, i32_w]
           rfl
          refine take_ (i := 7) (N := some 30) (v := ?_) (a' := ?_) #[false, true, true, true, true, false, true, true, false, false, true, true, false, false, false, false, false] rfl rfl (take_ofW HT_.out HW_.out (by kernel_rfl)) (fun _ _ _ h => h) (Or.inl ⟨by rfl, ?_⟩) hHeld ?_ ?_
          rotate_left
          ·rintro w' ⟨s0, s1, s2, s3⟩
           go_simp
           with_reducible rfl
          rotate_left
          ·simp only [Act.put, sA_, sB_, sC_, i64_w, i32_w]
           rfl
          refine take_ (i := 12) (N := some 35) (v := ?_) (a' := ?_) #[false, true, true, true, true, false, true, true, false, false, true, true, true, false, false, false, false] rfl rfl (take_ofW HT_.out HW_.out (by kernel_rfl)) (fun _ _ _ h => h) (Or.inl ⟨by rfl, ?_⟩) hHeld ?_ ?_
          rotate_left
          ·rintro w' ⟨s0, s1, s2, s3⟩
           go_simp
           with_reducible rfl
          rotate_left
          ·simp only [Act.put, sA_, sB_, sC_, i64_w, i32_w]
           rfl
          refine pu_ (i := 13) (N := some 36) (v := ?_) (a' := ?_) #[false, true, true, true, true, false, true, true, false, false, true, true, true, true, false, false, false] rfl rfl (Or.inl ⟨by rfl, ?_⟩) ?_ ?_
          rotate_left
          ·intro w'
           go_simp
           with_reducible rfl
          rotate_left
          ·simp only [Act.put, sA_, sB_, sC_, i64_w, i32_w]
           rfl
          refine join_ (σ := Value × Value × Value) 4 #[true, true, true, true, true, true, true, true, true, false, true, true, true, true, false, false, false] (fun s_ => [(23, s_.1), (28, s_.2.1), (31, s_.2.2)]) (fun s_ w' => (w'.cell? ⟨gb275, 0, none⟩ = some (.int .i64 a1_0) ∧ w'.cell? ⟨gb275, 1, none⟩ = some (.int .i64 a1_1) ∧ w'.cell? ⟨gb275, 2, none⟩ = some (.string a1_2) ∧ w'.cell? ⟨gb275, 3, none⟩ = some (.string a1_3)) ∧ (Kd.R Kd.string 9 w' w.heap.size (fun k_ => some k_ ≠ (s_.2.2 : Value).ownBlock) s_.2.1 y281) ∧ (Kd.R Kd.string 9 w' w.heap.size (fun k_ => some k_ ≠ (s_.2.1 : Value).ownBlock) s_.2.2 y284) ∧ (w'.heap[gb275]? = some (.cells #[.int .i64 a1_0, .int .i64 a1_1, .string a1_2, .string a1_3] 25 (0, 0))) ∧ (Below w.heap.size w w')) ?_ ?_
          rotate_left
          ·intro hCont
           refine two_ (i := 0) (j := 8) (Ni := some 23) (Nj := some 31) #[true, true, true, true, true, false, true, true, false, false, true, true, true, true, false, false, false] #[false, true, true, true, true, false, true, true, true, false, true, true, true, true, false, false, false] rfl rfl rfl rfl (two_of HT_.out (by kernel_rfl)) (by decide) (by decide) (fun K hK => ?_) (fun K hK => ?_)
           ·skip
            refine Kd.R_lit_step Kd.string _ 9 ?hg (N := 23) ?hd (xs := ([] : List ByteArray)) (inner := []) (ok := fun _ => True) (okp := fun _ => True) ?hr ?hp (fun _ hk => hk) trivial (Below.refl _ _) (Nat.le_refl _) (by simp) ?_; (case hd => rfl); (case hg => rfl); (case hr => first | (go_simp; done) | (go_simp; rfl)); (case hp => exact (Reps.none _ _))
            intro v278 w30 ho31 hb hg_ hnew_
            clear hg_ hnew_
            (first | rw [← Ny277.out] at ho31 | (simp only [Int.reduceToNat] at ho31; rw [← Ny277.out] at ho31))
            have n0_ := Aside0.mk (Kd.R_lower ho31 (below_size (bb1_ HB GE275)))
            have n1_ := Aside0.mk (lb_ BK275 hb)
            have n2_ := Aside0.mk (below_step (bb1_ HB GE275) hb)
            clear BK275
            clear HB
            have HO279 := n0_
            have BK275 := n1_
            have HB := n2_
            clear n0_ n1_ n2_
            clear hb ho31
            refine hK.out _ _ ⟨(blk_cell BK275.out 0).trans rfl, (blk_cell BK275.out 1).trans rfl, (blk_cell BK275.out 2).trans rfl, (blk_cell BK275.out 3).trans rfl⟩ (fun hHeld => ?_)
            clear hK K
            refine norm_ (a' := ?_) ?_ ?_
            rotate_left
            ·show Act.put _ (some 23) _ = _
             simp only [Act.put, sA_, sB_, sC_, i64_w, i32_w]
             rfl
            refine two_ (i := 5) (j := 8) (Ni := some 28) (Nj := some 31) #[true, true, true, true, true, true, true, true, false, false, true, true, true, true, false, false, false] #[true, true, true, true, true, false, true, true, true, false, true, true, true, true, false, false, false] rfl rfl rfl rfl (two_of HT_.out (by kernel_rfl)) (by decide) (by decide) (fun K hK => ?_) (fun K hK => ?_)
            ·skip
             refine Kd.R_append_rows_step Kd.string (w0 := w) w.heap.size (by rfl) (.tmp 23) (.tmp 27) 31 9 (.string ⟨#[]⟩) 16 rfl Try.underlying31 info9 rfl (by decide) (by omega) v278 y277 (l0.take (a1_1 : Int).toNat) _ _ _ (fun _ => True) (fun _ => False) rfl rfl ?aO ?aR (fun _ _ h => h) (fun _ h => h.elim) ?aF ?aB ?aS ?aL ?_
             (case aR => first | (refine reads_len (show (l0.take (a1_1 : Int).toNat).length = a1_1.toNat from (by rw [List.length_take]; have h_ : (a1_1 : Int) ≤ (l0.length : Int) := of_decide_eq_true as_; omega)) ?_; repeat (first | exact (Kd.C_below HR280.out HB.out) | (with_reducible first | apply cA_ | apply cN_ | apply cD_)); done) | (repeat (first | exact (Kd.C_below HR280.out HB.out) | (with_reducible first | apply cA_ | apply cN_ | apply cD_)); done))
             (case aB => exact (bb1_ HB GE275))
             (case aF => exact (fun _ _ => trivial))
             (case aO => exact (ra_ HO279))
             (case aS => exact (below_size (bb1_ HB GE275)))
             (case aL => have := LMc18.out; have hlx_ := (show (l0.take (a1_1 : Int).toNat).length = a1_1.toNat from (by rw [List.length_take]; have h_ : (a1_1 : Int) ≤ (l0.length : Int) := of_decide_eq_true as_; omega)); omega)
             intro v282 w32 ho hb hg hat
             rw [← Ny281.out] at ho
             have n0_ := Aside0.mk (blk_grown (g := gb275) (o := .cells #[.int .i64 a1_0, .int .i64 a1_1, .string a1_2, .string a1_3] 25 (0, 0)) (la_ BK275) hg (Kd.R_ne HO279.out BK275.out (by decide)))
             have n1_ := Aside0.mk (hb)
             have n2_ := Aside0.mk (ho)
             clear BK275
             clear HB
             clear HO279
             have BK275 := n0_
             have HB := n1_
             have HO283 := n2_
             clear n0_ n1_ n2_
             clear ho hb hg hat
             refine hK.out _ _ ⟨(blk_cell BK275.out 0).trans rfl, (blk_cell BK275.out 1).trans rfl, (blk_cell BK275.out 2).trans rfl, (blk_cell BK275.out 3).trans rfl⟩ (fun hHeld => ?_)
             clear hK K
             refine norm_ (a' := ?_) ?_ ?_
             rotate_left
             ·show Act.put _ (some 28) _ = _
              simp only [Act.put, sA_, sB_, sC_, i64_w, i32_w]
              rfl
             refine one_ (i := 8) (N := some 31) #[true, true, true, true, true, true, true, true, true, false, true, true, true, true, false, false, false] rfl rfl (one_of HT_.out (by kernel_rfl)) (by decide) (fun K hK => ?_)
             refine Kd.R_lit_step Kd.string _ 9 ?hg (N := 31) ?hd (xs := ([a1_2] : List ByteArray)) (inner := [.string a1_2]) (ok := fun _ => True) (okp := fun _ => True) ?hr ?hp (fun _ hk => hk) trivial (Below.refl _ _) (Nat.le_refl _) (by simp) ?_; (case hd => rfl); (case hg => rfl); (case hr => first | (go_simp; done) | (go_simp; rfl)); (case hp => exact (Reps.one (show Kd.M Kd.string _ _ _ a1_2 [.string a1_2] from rfl) (Reps.none _ _)))
             intro v285 w33 ho34 hb hg_ hnew_
             clear hg_ hnew_
             (first | rw [← Ny284.out] at ho34 | (simp only [Int.reduceToNat] at ho34; rw [← Ny284.out] at ho34))
             have n0_ := Aside0.mk (Kd.R_elder' (ra_ HO283) (Kd.R_base ho34) hb)
             have n1_ := Aside0.mk (Kd.R_lower (Kd.R_new' ho34 (Kd.R_lt (ra_ HO283))) (below_size (bb1_ HB GE275)))
             have n2_ := Aside0.mk (lb_ BK275 hb)
             have n3_ := Aside0.mk (below_step (bb1_ HB GE275) hb)
             clear HO283
             clear BK275
             clear HB
             have HO283 := n0_
             have HO286 := n1_
             have BK275 := n2_
             have HB := n3_
             clear n0_ n1_ n2_ n3_
             clear hb ho34
             refine hK.out _ _ ⟨(blk_cell BK275.out 0).trans rfl, (blk_cell BK275.out 1).trans rfl, (blk_cell BK275.out 2).trans rfl, (blk_cell BK275.out 3).trans rfl⟩ (fun hHeld => ?_)
             clear hK K
             refine norm_ (a' := ?_) ?_ ?_
             rotate_left
             ·show Act.put _ (some 31) _ = _
              simp only [Act.put, sA_, sB_, sC_, i64_w, i32_w]
              rfl
             exact norm_ (by simp only [putAll, Act.put, List.setIfInBounds_toArray, List.set_cons_zero, List.set_cons_succ]) (hCont (v278, v282, v285) _ ⟨hHeld, (by (with_reducible repeat (first | apply rA_ | apply rN_ | apply rD_)); exact Kd.R_mono HO283.out (fun _ hk => hk.2)), (by (with_reducible repeat (first | apply rA_ | apply rN_ | apply rD_)); exact Kd.R_mono HO286.out (fun _ hk => hk.2)), (la_ BK275), (bb1_ HB GE275)⟩)
            ·skip
             refine Kd.R_lit_step Kd.string _ 9 ?hg (N := 31) ?hd (xs := ([a1_2] : List ByteArray)) (inner := [.string a1_2]) (ok := fun _ => True) (okp := fun _ => True) ?hr ?hp (fun _ hk => hk) trivial (Below.refl _ _) (Nat.le_refl _) (by simp) ?_; (case hd => rfl); (case hg => rfl); (case hr => first | (go_simp; done) | (go_simp; rfl)); (case hp => exact (Reps.one (show Kd.M Kd.string _ _ _ a1_2 [.string a1_2] from rfl) (Reps.none _ _)))
             intro v285 w32 ho33 hb hg_ hnew_
             clear hg_ hnew_
             (first | rw [← Ny284.out] at ho33 | (simp only [Int.reduceToNat] at ho33; rw [← Ny284.out] at ho33))
             have n0_ := Aside0.mk (Kd.R_elder' (ra_ HO279) (Kd.R_base ho33) hb)
             have n1_ := Aside0.mk (Kd.R_lower (Kd.R_new' ho33 (Kd.R_lt (ra_ HO279))) (below_size (bb1_ HB GE275)))
             have n2_ := Aside0.mk (lb_ BK275 hb)
             have n3_ := Aside0.mk (below_step (bb1_ HB GE275) hb)
             clear HO279
             clear BK275
             clear HB
             have HO279 := n0_
             have HO286 := n1_
             have BK275 := n2_
             have HB := n3_
             clear n0_ n1_ n2_ n3_
             clear hb ho33
             refine hK.out _ _ ⟨(blk_cell BK275.out 0).trans rfl, (blk_cell BK275.out 1).trans rfl, (blk_cell BK275.out 2).trans rfl, (blk_cell BK275.out 3).trans rfl⟩ (fun hHeld => ?_)
             clear hK K
             refine norm_ (a' := ?_) ?_ ?_
             rotate_left
             ·show Act.put _ (some 31) _ = _
              simp only [Act.put, sA_, sB_, sC_, i64_w, i32_w]
              rfl
             refine one_ (i := 5) (N := some 28) #[true, true, true, true, true, true, true, true, true, false, true, true, true, true, false, false, false] rfl rfl (one_of HT_.out (by kernel_rfl)) (by decide) (fun K hK => ?_)
             refine Kd.R_append_rows_step Kd.string (w0 := w) w.heap.size (by rfl) (.tmp 23) (.tmp 27) 31 9 (.string ⟨#[]⟩) 16 rfl Try.underlying31 info9 rfl (by decide) (by omega) v278 y277 (l0.take (a1_1 : Int).toNat) _ _ _ (fun k_ => some k_ ≠ (v285 : Value).ownBlock) (fun _ => False) rfl rfl ?aO ?aR (fun _ _ h => h) (fun _ h => h.elim) ?aF ?aB ?aS ?aL ?_
             (case aR => first | (refine reads_len (show (l0.take (a1_1 : Int).toNat).length = a1_1.toNat from (by rw [List.length_take]; have h_ : (a1_1 : Int) ≤ (l0.length : Int) := of_decide_eq_true as_; omega)) ?_; repeat (first | exact (Kd.C_below HR280.out HB.out) | (with_reducible first | apply cA_ | apply cN_ | apply cD_)); done) | (repeat (first | exact (Kd.C_below HR280.out HB.out) | (with_reducible first | apply cA_ | apply cN_ | apply cD_)); done))
             (case aB => exact (bb1_ HB GE275))
             (case aF => exact (fun k_ hk => Kd.fresh' (Kd.R_lt (ra_ HO286)) k_ hk))
             (case aO => exact (by (with_reducible repeat (first | apply rA_ | apply rN_ | apply rD_)); exact Kd.R_mono HO279.out (fun _ hk => hk.2)))
             (case aS => exact (below_size (bb1_ HB GE275)))
             (case aL => have := LMc18.out; have hlx_ := (show (l0.take (a1_1 : Int).toNat).length = a1_1.toNat from (by rw [List.length_take]; have h_ : (a1_1 : Int) ≤ (l0.length : Int) := of_decide_eq_true as_; omega)); omega)
             intro v282 w34 ho hb hg hat
             rw [← Ny281.out] at ho
             have n0_ := Aside0.mk (blk_grown (g := gb275) (o := .cells #[.int .i64 a1_0, .int .i64 a1_1, .string a1_2, .string a1_3] 25 (0, 0)) (la_ BK275) hg (Kd.R_ne HO279.out BK275.out (by decide)))
             have n1_ := Aside0.mk (Kd.R_after (ok := (fun _ => True)) (ra_ HO286) hg hat)
             have n2_ := Aside0.mk (hb)
             have n3_ := Aside0.mk (ho)
             clear BK275
             clear HO286
             clear HB
             clear HO279
             have BK275 := n0_
             have HO286 := n1_
             have HB := n2_
             have HO283 := n3_
             clear n0_ n1_ n2_ n3_
             clear ho hb hg hat
             refine hK.out _ _ ⟨(blk_cell BK275.out 0).trans rfl, (blk_cell BK275.out 1).trans rfl, (blk_cell BK275.out 2).trans rfl, (blk_cell BK275.out 3).trans rfl⟩ (fun hHeld => ?_)
             clear hK K
             refine norm_ (a' := ?_) ?_ ?_
             rotate_left
             ·show Act.put _ (some 28) _ = _
              simp only [Act.put, sA_, sB_, sC_, i64_w, i32_w]
              rfl
             exact norm_ (by simp only [putAll, Act.put, List.setIfInBounds_toArray, List.set_cons_zero, List.set_cons_succ]) (hCont (v278, v282, v285) _ ⟨hHeld, (ra_ HO283), (by (with_reducible repeat (first | apply rA_ | apply rN_ | apply rD_)); exact Kd.R_mono HO286.out (fun _ hk => hk.2)), (la_ BK275), (bb1_ HB GE275)⟩)
           ·skip
            refine Kd.R_lit_step Kd.string _ 9 ?hg (N := 31) ?hd (xs := ([a1_2] : List ByteArray)) (inner := [.string a1_2]) (ok := fun _ => True) (okp := fun _ => True) ?hr ?hp (fun _ hk => hk) trivial (Below.refl _ _) (Nat.le_refl _) (by simp) ?_; (case hd => rfl); (case hg => rfl); (case hr => first | (go_simp; done) | (go_simp; rfl)); (case hp => exact (Reps.one (show Kd.M Kd.string _ _ _ a1_2 [.string a1_2] from rfl) (Reps.none _ _)))
            intro v285 w30 ho31 hb hg_ hnew_
            clear hg_ hnew_
            (first | rw [← Ny284.out] at ho31 | (simp only [Int.reduceToNat] at ho31; rw [← Ny284.out] at ho31))
            have n0_ := Aside0.mk (Kd.R_lower ho31 (below_size (bb1_ HB GE275)))
            have n1_ := Aside0.mk (lb_ BK275 hb)
            have n2_ := Aside0.mk (below_step (bb1_ HB GE275) hb)
            clear BK275
            clear HB
            have HO286 := n0_
            have BK275 := n1_
            have HB := n2_
            clear n0_ n1_ n2_
            clear hb ho31
            refine hK.out _ _ ⟨(blk_cell BK275.out 0).trans rfl, (blk_cell BK275.out 1).trans rfl, (blk_cell BK275.out 2).trans rfl, (blk_cell BK275.out 3).trans rfl⟩ (fun hHeld => ?_)
            clear hK K
            refine norm_ (a' := ?_) ?_ ?_
            rotate_left
            ·show Act.put _ (some 31) _ = _
             simp only [Act.put, sA_, sB_, sC_, i64_w, i32_w]
             rfl
            refine one_ (i := 0) (N := some 23) #[true, true, true, true, true, false, true, true, true, false, true, true, true, true, false, false, false] rfl rfl (one_of HT_.out (by kernel_rfl)) (by decide) (fun K hK => ?_)
            refine Kd.R_lit_step Kd.string _ 9 ?hg (N := 23) ?hd (xs := ([] : List ByteArray)) (inner := []) (ok := fun _ => True) (okp := fun _ => True) ?hr ?hp (fun _ hk => hk) trivial (Below.refl _ _) (Nat.le_refl _) (by simp) ?_; (case hd => rfl); (case hg => rfl); (case hr => first | (go_simp; done) | (go_simp; rfl)); (case hp => exact (Reps.none _ _))
            intro v278 w32 ho33 hb hg_ hnew_
            clear hg_ hnew_
            (first | rw [← Ny277.out] at ho33 | (simp only [Int.reduceToNat] at ho33; rw [← Ny277.out] at ho33))
            have n0_ := Aside0.mk (Kd.R_elder' (ra_ HO286) (Kd.R_base ho33) hb)
            have n1_ := Aside0.mk (Kd.R_lower (Kd.R_new' ho33 (Kd.R_lt (ra_ HO286))) (below_size (bb1_ HB GE275)))
            have n2_ := Aside0.mk (lb_ BK275 hb)
            have n3_ := Aside0.mk (below_step (bb1_ HB GE275) hb)
            clear HO286
            clear BK275
            clear HB
            have HO286 := n0_
            have HO279 := n1_
            have BK275 := n2_
            have HB := n3_
            clear n0_ n1_ n2_ n3_
            clear hb ho33
            refine hK.out _ _ ⟨(blk_cell BK275.out 0).trans rfl, (blk_cell BK275.out 1).trans rfl, (blk_cell BK275.out 2).trans rfl, (blk_cell BK275.out 3).trans rfl⟩ (fun hHeld => ?_)
            clear hK K
            refine norm_ (a' := ?_) ?_ ?_
            rotate_left
            ·show Act.put _ (some 23) _ = _
             simp only [Act.put, sA_, sB_, sC_, i64_w, i32_w]
             rfl
            refine one_ (i := 5) (N := some 28) #[true, true, true, true, true, true, true, true, true, false, true, true, true, true, false, false, false] rfl rfl (one_of HT_.out (by kernel_rfl)) (by decide) (fun K hK => ?_)
            refine Kd.R_append_rows_step Kd.string (w0 := w) w.heap.size (by rfl) (.tmp 23) (.tmp 27) 31 9 (.string ⟨#[]⟩) 16 rfl Try.underlying31 info9 rfl (by decide) (by omega) v278 y277 (l0.take (a1_1 : Int).toNat) _ _ _ (fun k_ => some k_ ≠ (v285 : Value).ownBlock) (fun _ => False) rfl rfl ?aO ?aR (fun _ _ h => h) (fun _ h => h.elim) ?aF ?aB ?aS ?aL ?_
            (case aR => first | (refine reads_len (show (l0.take (a1_1 : Int).toNat).length = a1_1.toNat from (by rw [List.length_take]; have h_ : (a1_1 : Int) ≤ (l0.length : Int) := of_decide_eq_true as_; omega)) ?_; repeat (first | exact (Kd.C_below HR280.out HB.out) | (with_reducible first | apply cA_ | apply cN_ | apply cD_)); done) | (repeat (first | exact (Kd.C_below HR280.out HB.out) | (with_reducible first | apply cA_ | apply cN_ | apply cD_)); done))
            (case aB => exact (bb1_ HB GE275))
            (case aF => exact (fun k_ hk => Kd.fresh' (Kd.R_lt (ra_ HO286)) k_ hk))
            (case aO => exact (by (with_reducible repeat (first | apply rA_ | apply rN_ | apply rD_)); exact Kd.R_mono HO279.out (fun _ hk => hk.2)))
            (case aS => exact (below_size (bb1_ HB GE275)))
            (case aL => have := LMc18.out; have hlx_ := (show (l0.take (a1_1 : Int).toNat).length = a1_1.toNat from (by rw [List.length_take]; have h_ : (a1_1 : Int) ≤ (l0.length : Int) := of_decide_eq_true as_; omega)); omega)
            intro v282 w34 ho hb hg hat
            rw [← Ny281.out] at ho
            have n0_ := Aside0.mk (blk_grown (g := gb275) (o := .cells #[.int .i64 a1_0, .int .i64 a1_1, .string a1_2, .string a1_3] 25 (0, 0)) (la_ BK275) hg (Kd.R_ne HO279.out BK275.out (by decide)))
            have n1_ := Aside0.mk (Kd.R_after (ok := (fun _ => True)) (ra_ HO286) hg hat)
            have n2_ := Aside0.mk (hb)
            have n3_ := Aside0.mk (ho)
            clear BK275
            clear HO286
            clear HB
            clear HO279
            have BK275 := n0_
            have HO286 := n1_
            have HB := n2_
            have HO283 := n3_
            clear n0_ n1_ n2_ n3_
            clear ho hb hg hat
            refine hK.out _ _ ⟨(blk_cell BK275.out 0).trans rfl, (blk_cell BK275.out 1).trans rfl, (blk_cell BK275.out 2).trans rfl, (blk_cell BK275.out 3).trans rfl⟩ (fun hHeld => ?_)
            clear hK K
            refine norm_ (a' := ?_) ?_ ?_
            rotate_left
            ·show Act.put _ (some 28) _ = _
             simp only [Act.put, sA_, sB_, sC_, i64_w, i32_w]
             rfl
            exact norm_ (by simp only [putAll, Act.put, List.setIfInBounds_toArray, List.set_cons_zero, List.set_cons_succ]) (hCont (v278, v282, v285) _ ⟨hHeld, (ra_ HO283), (by (with_reducible repeat (first | apply rA_ | apply rN_ | apply rD_)); exact Kd.R_mono HO286.out (fun _ hk => hk.2)), (la_ BK275), (bb1_ HB GE275)⟩)
          rintro ⟨v278, v282, v285⟩ w35 ⟨hS_, h0_, h1_, h2_, h3_⟩
          have n0_ : Aside0 (Kd.R Kd.string 9 w35 w.heap.size (fun k_ => some k_ ≠ (v285 : Value).ownBlock) v282 y281) := ⟨h0_⟩
          have n1_ : Aside0 (Kd.R Kd.string 9 w35 w.heap.size (fun k_ => some k_ ≠ (v282 : Value).ownBlock) v285 y284) := ⟨h1_⟩
          have n2_ : Aside0 (w35.heap[gb275]? = some (.cells #[.int .i64 a1_0, .int .i64 a1_1, .string a1_2, .string a1_3] 25 (0, 0))) := ⟨h2_⟩
          have n3_ : Aside0 (Below w.heap.size w w35) := ⟨h3_⟩
          clear BK275
          clear HB
          clear h0_ h1_ h2_ h3_
          have HO283 := n0_
          have HO286 := n1_
          have BK275 := n2_
          have HB := n3_
          clear n0_ n1_ n2_ n3_
          have hHeld : w35.cell? ⟨gb275, 0, none⟩ = some (.int .i64 a1_0) ∧ w35.cell? ⟨gb275, 1, none⟩ = some (.int .i64 a1_1) ∧ w35.cell? ⟨gb275, 2, none⟩ = some (.string a1_2) ∧ w35.cell? ⟨gb275, 3, none⟩ = some (.string a1_3) := hS_
          obtain ⟨Ao37, co37, eo37⟩ := Kd.R_slice HO286.out
          (first | subst eo37 | (injection eo37 with f1_ f2_ f3_; have f4_ := f1_.symm; have f5_ := f3_.symm; clear f1_ f2_ f3_; subst f4_; subst f5_))
          refine norm_ (a' := ?_) ?_ ?_
          rotate_left
          ·simp only [putAll, Act.put, List.setIfInBounds_toArray, List.set_cons_zero, List.set_cons_succ]
           rfl
          refine one_ (i := 9) (N := some 32) #[true, true, true, true, true, true, true, true, true, true, true, true, true, true, false, false, false] rfl rfl (one_of HT_.out (by kernel_rfl)) (by decide) (fun K hK => ?_)
          refine Kd.R_append_rows_step Kd.string (w0 := w) w.heap.size (by rfl) (.tmp 28) (.tmp 31) 31 9 (.string ⟨#[]⟩) 16 rfl Try.underlying31 info9 rfl (by decide) (by omega) v282 y281 y284 _ _ _ (fun k_ => some k_ ≠ (.slice Ao37 y284.length co37 : Value).ownBlock) (fun _ => False) rfl rfl ?aO ?aR (fun _ _ h => h) (fun _ h => h.elim) ?aF ?aB ?aS ?aL ?_
          (case aR => exact cr_ HO286)
          (case aB => exact (bb1_ HB GE275))
          (case aF => exact (fun k_ hk => Kd.fresh' (Kd.R_lt (ra_ HO286)) k_ hk))
          (case aO => exact (ra_ HO283))
          (case aS => exact (below_size (bb1_ HB GE275)))
          (case aL => have := LMc19.out; omega)
          intro v288 w36 ho hb hg hat
          rw [← Ny287.out] at ho
          have n0_ := Aside0.mk (blk_grown (g := gb275) (o := .cells #[.int .i64 a1_0, .int .i64 a1_1, .string a1_2, .string a1_3] 25 (0, 0)) (la_ BK275) hg (Kd.R_ne HO283.out BK275.out (by decide)))
          have n1_ := Aside0.mk (Kd.R_after (ok := (fun _ => True)) (by (with_reducible repeat (first | apply rA_ | apply rN_ | apply rD_)); exact Kd.R_mono HO286.out (fun _ hk => ⟨trivial, hk⟩)) hg hat)
          have n2_ := Aside0.mk (hb)
          have n3_ := Aside0.mk (ho)
          clear BK275
          clear HO286
          clear HB
          clear HO283
          have BK275 := n0_
          have HO286 := n1_
          have HB := n2_
          have HO289 := n3_
          clear n0_ n1_ n2_ n3_
          clear ho hb hg hat
          refine hK.out _ _ ⟨(blk_cell BK275.out 0).trans rfl, (blk_cell BK275.out 1).trans rfl, (blk_cell BK275.out 2).trans rfl, (blk_cell BK275.out 3).trans rfl⟩ (fun hHeld => ?_)
          clear hK K
          refine norm_ (a' := ?_) ?_ ?_
          rotate_left
          ·show Act.put _ (some 32) _ = _
           simp only [Act.put, sA_, sB_, sC_, i64_w, i32_w]
           rfl
          refine one_ (i := 14) (N := some 37) #[true, true, true, true, true, true, true, true, true, true, true, true, true, true, true, false, false] rfl rfl (one_of HT_.out (by kernel_rfl)) (by decide) (fun K hK => ?_)
          refine Kd.R_append_rows_step Kd.string (w0 := w) w.heap.size (by rfl) (.tmp 32) (.tmp 36) 31 9 (.string ⟨#[]⟩) 16 rfl Try.underlying31 info9 rfl (by decide) (by omega) v288 y287 (l0.drop (a1_1 : Int).toNat) _ _ _ (fun k_ => some k_ ≠ (.slice Ao37 y284.length co37 : Value).ownBlock) (fun _ => False) rfl rfl ?aO ?aR (fun _ _ h => h) (fun _ h => h.elim) ?aF ?aB ?aS ?aL ?_
          (case aR => first | (refine reads_len (show (l0.drop (a1_1 : Int).toNat).length = (l0.length - a1_1.toNat) from List.length_drop) ?_; repeat (first | exact (Kd.C_below HR290.out HB.out) | (with_reducible first | apply cA_ | apply cN_ | apply cD_)); done) | (repeat (first | exact (Kd.C_below HR290.out HB.out) | (with_reducible first | apply cA_ | apply cN_ | apply cD_)); done))
          (case aB => exact (bb1_ HB GE275))
          (case aF => exact (fun k_ hk => Kd.fresh' (Kd.R_lt (ra_ HO286)) k_ hk))
          (case aO => exact (ra_ HO289))
          (case aS => exact (below_size (bb1_ HB GE275)))
          (case aL => have := LMc22.out; have hlx_ := (show (l0.drop (a1_1 : Int).toNat).length = (l0.length - a1_1.toNat) from List.length_drop); omega)
          intro v292 w38 ho hb hg hat
          rw [← Ny291.out] at ho
          have n0_ := Aside0.mk (blk_grown (g := gb275) (o := .cells #[.int .i64 a1_0, .int .i64 a1_1, .string a1_2, .string a1_3] 25 (0, 0)) (la_ BK275) hg (Kd.R_ne HO289.out BK275.out (by decide)))
          have n1_ := Aside0.mk (Kd.R_after (ok := (fun _ => True)) (ra_ HO286) hg hat)
          have n2_ := Aside0.mk (hb)
          have n3_ := Aside0.mk (ho)
          clear BK275
          clear HO286
          clear HB
          clear HO289
          have BK275 := n0_
          have HO286 := n1_
          have HB := n2_
          have HO293 := n3_
          clear n0_ n1_ n2_ n3_
          clear ho hb hg hat
          refine hK.out _ _ ⟨(blk_cell BK275.out 0).trans rfl, (blk_cell BK275.out 1).trans rfl, (blk_cell BK275.out 2).trans rfl, (blk_cell BK275.out 3).trans rfl⟩ (fun hHeld => ?_)
          clear hK K
          refine norm_ (a' := ?_) ?_ ?_
          rotate_left
          ·show Act.put _ (some 37) _ = _
           simp only [Act.put, sA_, sB_, sC_, i64_w, i32_w]
           rfl
          refine pu_ (i := 15) (N := some 4) (v := ?_) (a' := ?_) #[true, true, true, true, true, true, true, true, true, true, true, true, true, true, true, true, false] rfl rfl (Or.inl ⟨by rfl, ?_⟩) ?_ ?_
          rotate_left
          ·intro w'
           go_simp
           with_reducible rfl
          rotate_left
          ·simp only [Act.put, sA_, sB_, sC_, i64_w, i32_w]
           rfl
          refine pu_ (i := 16) (N := some 5) (v := ?_) (a' := ?_) #[true, true, true, true, true, true, true, true, true, true, true, true, true, true, true, true, true] rfl rfl (Or.inl ⟨by rfl, ?_⟩) ?_ ?_
          rotate_left
          ·intro w'
           go_simp
           with_reducible rfl
          rotate_left
          ·simp only [Act.put, sA_, sB_, sC_, i64_w, i32_w]
           rfl
          refine done_ (done_of HT_.out (by kernel_rfl)) ?_
          try go_wp2
          go_ret2
          exact ⟨_, by first | rfl | (simp [errW_none, errW_some] <;> rfl) | (simp [*, errW_none, errW_some] <;> rfl), by (with_reducible repeat (first | apply rA_ | apply rN_ | apply rD_)); exact Kd.R_mono HO293.out (fun _ hk => trivial), bb1_ HB GE275⟩
         ·rw [if_neg c22] at H
          exact absurd H (by simp)
        ·rw [if_neg c19] at H
         exact absurd H (by simp)
       ·rw [if_neg c18] at H
        exact absurd H (by simp)
      ·rw [if_neg c17] at H
       exact absurd H (by simp)
     ·rw [if_neg c16] at H
      exact absurd H (by simp)
  ·rw [if_neg c5] at H
   have c5b0 : (a1_0 == 0) = false := beq_eq_false_iff_ne.mpr c5
   have c5b1 : (a1_0 != 0) = true := bne_iff_ne.mpr c5
   have HC39 := Aside0.mk H
   clear H
   go_enter Try.func84, Try.ntmps84
   go_upto_region 7 with (first | ((with_reducible refine gate_dst (N := 3) rfl ?_); (try (refine gate_guard (by rfl) ?_; dsimp only)); refine box_event ?hg (N := 3) ?hd (cs := #[.int .i64 a1_0, .int .i64 a1_1, .string a1_2, .string a1_3]) (t := 25) ?hr ?_; (case hd => rfl); (case hg => rfl); (case hr => first | (go_simp; done) | (go_simp; rfl)); intro gb275 hg w40 hbox hb; have n0_ := Aside0.mk (bt_ HB hb); have n1_ := Aside0.mk (hbox); have n2_ := gz_ hg HB; have n3_ := gz_ hg HB; clear HB; have HB := n0_; have BK275 := n1_; have GW275 := n2_; have GE275 := n3_; clear n0_ n1_ n2_ n3_; clear hb hbox hg; have hcz41_0 := cz0_ BK275; have hcz41_1 := cz1_ BK275; have hcz41_2 := cz2_ BK275; have hcz41_3 := cz3_ BK275; have hfz41_0 := fz_ BK275 0; have hfz41_1 := fz_ BK275 1; have hfz41_2 := fz_ BK275 2; have hfz41_3 := fz_ BK275 3) | ((with_reducible refine gate_callee (f := 49) rfl ?_); refine goesL_ (some 8) rfl rfl Try.func49 (by kernel_rfl) rfl #[.agg #[.int .i64 a1_0, .int .i64 a1_1, .string a1_2, .string a1_3]] rfl args_ ?_; (with_reducible refine (spec_unEdit.calls k a1_0 a1_1 a1_2 a1_3 true _ A3.out).mono ?_); rintro e w42 ⟨rfl, hb⟩; refine ⟨_, rfl, ?_⟩; have n0_ := Aside0.mk (lb_ BK275 hb); have n1_ := Aside0.mk (below_step (bb1_ HB GE275) hb); clear BK275; clear HB; have BK275 := n0_; have HB := n1_; clear n0_ n1_; (try clear hb); (try clear hb2); (try clear hk); (try clear hi); have hcz43_0 := cz0_ BK275; have hcz43_1 := cz1_ BK275; have hcz43_2 := cz2_ BK275; have hcz43_3 := cz3_ BK275; have hfz43_0 := fz_ BK275 0; have hfz43_1 := fz_ BK275 1; have hfz43_2 := fz_ BK275 2; have hfz43_3 := fz_ BK275 3))
   (try simp only [Act.put, sA_, sB_, sC_])
   go_cut [52] (fun v52 wc => ∃ (kq : Nat) (x52_38 : Bool), v52 = .bool x52_38 ∧ Aside0 (spec_unMake.j0 kq l0 x52_38 a1_0 a1_1 a1_2 a1_3 = some (r1, r2)) ∧ Aside0 (kq ≤ k) ∧ Aside0 (wc.heap[gb275]? = some (.cells #[.int .i64 a1_0, .int .i64 a1_1, .string a1_2, .string a1_3] 25 (0, 0))) ∧ Aside0 (Below w.heap.size w wc))
   case first =>
    have H := HC39.out
    clear HC39
    by_cases c44 : a1_1 ≥ (l0.length : Int)
    ·rw [if_pos c44] at H
     have c44b0 : decide ((l0.length : Int) ≤ a1_1) = true := decide_eq_true c44
     clear c44
     (first | rw [c44b0] | (simp only [i64_w, i32_w]; rw [c44b0]) | skip)
     have H' := Aside0.mk H
     clear H
     try go_wp2
     have n0_ := Aside0.mk (blk_drew BK275.out)
     have n1_ := Aside0.mk (below_drew1 HB.out)
     clear BK275
     clear HB
     have BK275 := n0_
     have HB := n1_
     clear n0_ n1_
     refine start_ (n := 15) (S := fun w' => w'.cell? ⟨gb275, 0, none⟩ = some (.int .i64 a1_0) ∧ w'.cell? ⟨gb275, 1, none⟩ = some (.int .i64 a1_1) ∧ w'.cell? ⟨gb275, 2, none⟩ = some (.string a1_2) ∧ w'.cell? ⟨gb275, 3, none⟩ = some (.string a1_3)) (ds := []) #[false, false, false, false, false, false, false, false, false, false, false, false, false, false, false] (by kernel_rfl) rfl rfl ⟨(blk_cell BK275.out 0).trans rfl, (blk_cell BK275.out 1).trans rfl, (blk_cell BK275.out 2).trans rfl, (blk_cell BK275.out 3).trans rfl⟩ (fun hHeld => ?_); refine with_tabW spec_unMake.tab7 spec_unMake.bits7 (fun HT_ HW_ => ?_)
     generalize w42.drew = w45 at BK275 HB hHeld ⊢
     refine pu_ (i := 0) (N := some 38) (v := ?_) (a' := ?_) #[true, false, false, false, false, false, false, false, false, false, false, false, false, false, false] rfl rfl (Or.inl ⟨by rfl, ?_⟩) ?_ ?_
     rotate_left
     ·intro w'
      go_simp
      with_reducible rfl
     rotate_left
     ·simp only [Act.put, sA_, sB_, sC_, i64_w, i32_w]
      rfl
     refine pu_ (i := 2) (N := some 40) (v := ?_) (a' := ?_) #[true, false, true, false, false, false, false, false, false, false, false, false, false, false, false] rfl rfl (Or.inl ⟨by rfl, ?_⟩) ?_ ?_
     rotate_left
     ·intro w'
      go_simp
      with_reducible rfl
     rotate_left
     ·simp only [Act.put, sA_, sB_, sC_, i64_w, i32_w]
      rfl
     refine pu_ (i := 3) (N := some 41) (v := ?_) (a' := ?_) #[true, false, true, true, false, false, false, false, false, false, false, false, false, false, false] rfl rfl (Or.inl ⟨by rfl, ?_⟩) ?_ ?_
     rotate_left
     ·intro w'
      go_simp
      with_reducible rfl
     rotate_left
     ·simp only [Act.put, sA_, sB_, sC_, i64_w, i32_w]
      rfl
     refine take_ (i := 1) (N := some 39) (v := ?_) (a' := ?_) #[true, true, true, true, false, false, false, false, false, false, false, false, false, false, false] rfl rfl (take_ofW HT_.out HW_.out (by kernel_rfl)) (fun _ _ _ h => h) (Or.inl ⟨by rfl, ?_⟩) hHeld ?_ ?_
     rotate_left
     ·rintro w' ⟨s0, s1, s2, s3⟩
      go_simp
      with_reducible rfl
     rotate_left
     ·simp only [Act.put, sA_, sB_, sC_, i64_w, i32_w]
      rfl
     refine pu_ (i := 4) (N := some 42) (v := ?_) (a' := ?_) #[true, true, true, true, true, false, false, false, false, false, false, false, false, false, false] rfl rfl (Or.inl ⟨by rfl, ?_⟩) ?_ ?_
     rotate_left
     ·intro w'
      go_simp
      with_reducible rfl
     rotate_left
     ·simp only [Act.put, sA_, sB_, sC_, i64_w, i32_w]
      rfl
     refine pu_ (i := 5) (N := some 43) (v := ?_) (a' := ?_) #[true, true, true, true, true, true, false, false, false, false, false, false, false, false, false] rfl rfl (Or.inl ⟨by rfl, ?_⟩) ?_ ?_
     rotate_left
     ·intro w'
      go_simp
      with_reducible rfl
     rotate_left
     ·simp only [Act.put, sA_, sB_, sC_, i64_w, i32_w]
      rfl
     refine pure_ (i := 6) (N := some 44) (v := undef) (a' := ?_) #[true, true, true, true, true, true, true, false, false, false, false, false, false, false, false] rfl rfl (any_of HT_.out (by kernel_rfl)) (fun _ _ _ h => h) (Or.inr ⟨by rfl, rfl⟩) ?_ ?_
     rotate_left
     ·simp only [Act.put, sA_, sB_, sC_, i64_w, i32_w]
      rfl
     refine pure_ (i := 7) (N := some 45) (v := undef) (a' := ?_) #[true, true, true, true, true, true, true, true, false, false, false, false, false, false, false] rfl rfl (any_of HT_.out (by kernel_rfl)) (fun _ _ _ h => h) (Or.inr ⟨by rfl, rfl⟩) ?_ ?_
     rotate_left
     ·simp only [Act.put, sA_, sB_, sC_, i64_w, i32_w]
      rfl
     refine pure_ (i := 8) (N := some 46) (v := undef) (a' := ?_) #[true, true, true, true, true, true, true, true, true, false, false, false, false, false, false] rfl rfl (any_of HT_.out (by kernel_rfl)) (fun _ _ _ h => h) (Or.inr ⟨by rfl, rfl⟩) ?_ ?_
     rotate_left
     ·simp only [Act.put, sA_, sB_, sC_, i64_w, i32_w]
      rfl
     refine pure_ (i := 9) (N := some 47) (v := undef) (a' := ?_) #[true, true, true, true, true, true, true, true, true, true, false, false, false, false, false] rfl rfl (any_of HT_.out (by kernel_rfl)) (fun _ _ _ h => h) (Or.inr ⟨by rfl, rfl⟩) ?_ ?_
     rotate_left
     ·simp only [Act.put, sA_, sB_, sC_, i64_w, i32_w]
      rfl
     refine pure_ (i := 10) (N := some 48) (v := undef) (a' := ?_) #[true, true, true, true, true, true, true, true, true, true, true, false, false, false, false] rfl rfl (any_of HT_.out (by kernel_rfl)) (fun _ _ _ h => h) (Or.inr ⟨by rfl, rfl⟩) ?_ ?_
     rotate_left
     ·simp only [Act.put, sA_, sB_, sC_, i64_w, i32_w]
      rfl
     refine pure_ (i := 11) (N := some 49) (v := undef) (a' := ?_) #[true, true, true, true, true, true, true, true, true, true, true, true, false, false, false] rfl rfl (any_of HT_.out (by kernel_rfl)) (fun _ _ _ h => h) (Or.inr ⟨by rfl, rfl⟩) ?_ ?_
     rotate_left
     ·simp only [Act.put, sA_, sB_, sC_, i64_w, i32_w]
      rfl
     refine pure_ (i := 12) (N := some 50) (v := undef) (a' := ?_) #[true, true, true, true, true, true, true, true, true, true, true, true, true, false, false] rfl rfl (any_of HT_.out (by kernel_rfl)) (fun _ _ _ h => h) (Or.inr ⟨by rfl, rfl⟩) ?_ ?_
     rotate_left
     ·simp only [Act.put, sA_, sB_, sC_, i64_w, i32_w]
      rfl
     refine pure_ (i := 13) (N := some 51) (v := undef) (a' := ?_) #[true, true, true, true, true, true, true, true, true, true, true, true, true, true, false] rfl rfl (any_of HT_.out (by kernel_rfl)) (fun _ _ _ h => h) (Or.inr ⟨by rfl, rfl⟩) ?_ ?_
     rotate_left
     ·simp only [Act.put, sA_, sB_, sC_, i64_w, i32_w]
      rfl
     refine pu_ (i := 14) (N := some 52) (v := ?_) (a' := ?_) #[true, true, true, true, true, true, true, true, true, true, true, true, true, true, true] rfl rfl (Or.inl ⟨by rfl, ?_⟩) ?_ ?_
     rotate_left
     ·intro w'
      go_simp
      with_reducible rfl
     rotate_left
     ·simp only [Act.put, sA_, sB_, sC_, i64_w, i32_w]
      rfl
     refine done_ (done_of HT_.out (by kernel_rfl)) ?_
     try go_wp2
     go_meet
     case rel => exact ⟨_, (true), (by first | rfl | (simp; done) | (simp [*]; done)), H', ⟨by first | omega | exact Nat.le_refl _⟩, ⟨by (with_reducible repeat (first | apply lN_ | apply lD_ | apply lA_)); exact BK275.out⟩, ⟨bb1_ HB GE275⟩⟩
    ·rw [if_neg c44] at H
     have c44b0 : decide ((l0.length : Int) ≤ a1_1) = false := decide_eq_false c44
     clear c44
     (first | rw [c44b0] | (simp only [i64_w, i32_w]; rw [c44b0]) | skip)
     by_cases c46 : 0 ≤ a1_1
     ·rw [if_pos c46] at H
      have c46b0 : decide (0 ≤ a1_1) = true := decide_eq_true c46
      clear c46
      by_cases c47 : a1_1 < (l0.length : Int)
      ·rw [if_pos c47] at H
       have c47b0 : decide (a1_1 < (l0.length : Int)) = true := decide_eq_true c47
       clear c47
       have H' := Aside0.mk H
       clear H
       try go_wp2
       have n0_ := Aside0.mk (blk_drew BK275.out)
       have n1_ := Aside0.mk (below_drew1 HB.out)
       clear BK275
       clear HB
       have BK275 := n0_
       have HB := n1_
       clear n0_ n1_
       have p294 : 0 ≤ (a1_1 : Int) := of_decide_eq_true as_
       have q294 : a1_1 < (l0.length : Int) := of_decide_eq_true as_
       obtain ⟨ad294, e294, hx294_0⟩ := Kd.at_string HR0.out a1_1 p294 q294
       have hw294_0 := hx294_0
       cases e294
       replace hx294_0 := hc_ HB hx294_0
       replace p294 := eq_true p294
       replace q294 := eq_true q294
       refine start_ (n := 15) (S := fun w' => w'.cell? ⟨gb275, 0, none⟩ = some (.int .i64 a1_0) ∧ w'.cell? ⟨gb275, 1, none⟩ = some (.int .i64 a1_1) ∧ w'.cell? ⟨gb275, 2, none⟩ = some (.string a1_2) ∧ w'.cell? ⟨gb275, 3, none⟩ = some (.string a1_3) ∧ w'.cell? (ad294.add (a1_1).toNat) = some (.string (rdOf ByteArray.empty l0 a1_1))) (ds := []) #[false, false, false, false, false, false, false, false, false, false, false, false, false, false, false] (by kernel_rfl) rfl rfl ⟨(blk_cell BK275.out 0).trans rfl, (blk_cell BK275.out 1).trans rfl, (blk_cell BK275.out 2).trans rfl, (blk_cell BK275.out 3).trans rfl, ((HB.out.cell (World.block_lt_of_cell? w _ hw294_0)).trans hw294_0)⟩ (fun hHeld => ?_); refine with_tabW spec_unMake.tab7 spec_unMake.bits7 (fun HT_ HW_ => ?_)
       generalize w42.drew = w48 at BK275 HB hx294_0 hHeld ⊢
       refine pu_ (i := 0) (N := some 38) (v := ?_) (a' := ?_) #[true, false, false, false, false, false, false, false, false, false, false, false, false, false, false] rfl rfl (Or.inl ⟨by rfl, ?_⟩) ?_ ?_
       rotate_left
       ·intro w'
        go_simp
        with_reducible rfl
       rotate_left
       ·simp only [Act.put, sA_, sB_, sC_, i64_w, i32_w]
        rfl
       refine pu_ (i := 2) (N := some 40) (v := ?_) (a' := ?_) #[true, false, true, false, false, false, false, false, false, false, false, false, false, false, false] rfl rfl (Or.inl ⟨by rfl, ?_⟩) ?_ ?_
       rotate_left
       ·intro w'
        go_simp
        with_reducible rfl
       rotate_left
       ·simp only [Act.put, sA_, sB_, sC_, i64_w, i32_w]
        rfl
       refine pu_ (i := 3) (N := some 41) (v := ?_) (a' := ?_) #[true, false, true, true, false, false, false, false, false, false, false, false, false, false, false] rfl rfl (Or.inl ⟨by rfl, ?_⟩) ?_ ?_
       rotate_left
       ·intro w'
        go_simp
        with_reducible rfl
       rotate_left
       ·simp only [Act.put, sA_, sB_, sC_, i64_w, i32_w]
        rfl
       refine take_ (i := 1) (N := some 39) (v := ?_) (a' := ?_) #[true, true, true, true, false, false, false, false, false, false, false, false, false, false, false] rfl rfl (take_ofW HT_.out HW_.out (by kernel_rfl)) (fun _ _ _ h => h) (Or.inl ⟨by rfl, ?_⟩) hHeld ?_ ?_
       rotate_left
       ·rintro w' ⟨s0, s1, s2, s3, s4⟩
        go_simp
        with_reducible rfl
       rotate_left
       ·simp only [Act.put, sA_, sB_, sC_, i64_w, i32_w]
        rfl
       refine pu_ (i := 4) (N := some 42) (v := ?_) (a' := ?_) #[true, true, true, true, true, false, false, false, false, false, false, false, false, false, false] rfl rfl (Or.inl ⟨by rfl, ?_⟩) ?_ ?_
       rotate_left
       ·intro w'
        go_simp
        with_reducible rfl
       rotate_left
       ·simp only [Act.put, sA_, sB_, sC_, i64_w, i32_w]
        rfl
       refine pu_ (i := 5) (N := some 43) (v := ?_) (a' := ?_) #[true, true, true, true, true, true, false, false, false, false, false, false, false, false, false] rfl rfl (Or.inl ⟨by rfl, ?_⟩) ?_ ?_
       rotate_left
       ·intro w'
        go_simp
        with_reducible rfl
       rotate_left
       ·simp only [Act.put, sA_, sB_, sC_, i64_w, i32_w]
        rfl
       refine pu_ (i := 6) (N := some 44) (v := ?_) (a' := ?_) #[true, true, true, true, true, true, true, false, false, false, false, false, false, false, false] rfl rfl (Or.inl ⟨by rfl, ?_⟩) ?_ ?_
       rotate_left
       ·intro w'
        go_simp
        with_reducible rfl
       rotate_left
       ·simp only [Act.put, sA_, sB_, sC_, i64_w, i32_w]
        rfl
       refine pu_ (i := 7) (N := some 45) (v := ?_) (a' := ?_) #[true, true, true, true, true, true, true, true, false, false, false, false, false, false, false] rfl rfl (Or.inl ⟨by rfl, ?_⟩) ?_ ?_
       rotate_left
       ·intro w'
        go_simp
        with_reducible rfl
       rotate_left
       ·simp only [Act.put, sA_, sB_, sC_, i64_w, i32_w]
        rfl
       refine pu_ (i := 11) (N := some 49) (v := ?_) (a' := ?_) #[true, true, true, true, true, true, true, true, false, false, false, true, false, false, false] rfl rfl (Or.inl ⟨by rfl, ?_⟩) ?_ ?_
       rotate_left
       ·intro w'
        go_simp
        with_reducible rfl
       rotate_left
       ·simp only [Act.put, sA_, sB_, sC_, i64_w, i32_w]
        rfl
       refine take_ (i := 8) (N := some 46) (v := ?_) (a' := ?_) #[true, true, true, true, true, true, true, true, true, false, false, true, false, false, false] rfl rfl (take_ofW HT_.out HW_.out (by kernel_rfl)) (fun _ _ _ h => h) (Or.inl ⟨by rfl, ?_⟩) hHeld ?_ ?_
       rotate_left
       ·rintro w' ⟨s0, s1, s2, s3, s4⟩
        go_simp
        with_reducible rfl
       rotate_left
       ·simp only [Act.put, sA_, sB_, sC_, i64_w, i32_w]
        rfl
       refine pu_ (i := 9) (N := some 47) (v := ?_) (a' := ?_) #[true, true, true, true, true, true, true, true, true, true, false, true, false, false, false] rfl rfl (Or.inl ⟨by rfl, ?_⟩) ?_ ?_
       rotate_left
       ·intro w'
        go_simp
        with_reducible rfl
       rotate_left
       ·simp only [Act.put, sA_, sB_, sC_, i64_w, i32_w]
        rfl
       refine take_ (i := 10) (N := some 48) (v := ?_) (a' := ?_) #[true, true, true, true, true, true, true, true, true, true, true, true, false, false, false] rfl rfl (take_ofW HT_.out HW_.out (by kernel_rfl)) (fun _ _ _ h => h) (Or.inl ⟨by rfl, ?_⟩) hHeld ?_ ?_
       rotate_left
       ·rintro w' ⟨s0, s1, s2, s3, s4⟩
        go_simp
        with_reducible rfl
       rotate_left
       ·simp only [Act.put, sA_, sB_, sC_, i64_w, i32_w]
        rfl
       refine take_ (i := 12) (N := some 50) (v := ?_) (a' := ?_) #[true, true, true, true, true, true, true, true, true, true, true, true, true, false, false] rfl rfl (take_ofW HT_.out HW_.out (by kernel_rfl)) (fun _ _ _ h => h) (Or.inl ⟨by rfl, ?_⟩) hHeld ?_ ?_
       rotate_left
       ·rintro w' ⟨s0, s1, s2, s3, s4⟩
        go_simp
        with_reducible rfl
       rotate_left
       ·simp only [Act.put, sA_, sB_, sC_, i64_w, i32_w]
        rfl
       refine pu_ (i := 13) (N := some 51) (v := ?_) (a' := ?_) #[true, true, true, true, true, true, true, true, true, true, true, true, true, true, false] rfl rfl (Or.inl ⟨by rfl, ?_⟩) ?_ ?_
       rotate_left
       ·intro w'
        go_simp
        with_reducible rfl
       rotate_left
       ·simp only [Act.put, sA_, sB_, sC_, i64_w, i32_w]
        rfl
       refine pu_ (i := 14) (N := some 52) (v := ?_) (a' := ?_) #[true, true, true, true, true, true, true, true, true, true, true, true, true, true, true] rfl rfl (Or.inl ⟨by rfl, ?_⟩) ?_ ?_
       rotate_left
       ·intro w'
        go_simp
        with_reducible rfl
       rotate_left
       ·simp only [Act.put, sA_, sB_, sC_, i64_w, i32_w]
        rfl
       refine done_ (done_of HT_.out (by kernel_rfl)) ?_
       try go_wp2
       go_meet
       case rel => exact ⟨_, (((rdOf ByteArray.empty l0 a1_1).toList != a1_3.toList)), (by first | rfl | (simp; done) | (simp [*]; done)), H', ⟨by first | omega | exact Nat.le_refl _⟩, ⟨by (with_reducible repeat (first | apply lN_ | apply lD_ | apply lA_)); exact BK275.out⟩, ⟨bb1_ HB GE275⟩⟩
      ·rw [if_neg c47] at H
       exact absurd H (by simp)
     ·rw [if_neg c46] at H
      exact absurd H (by simp)
   case rest =>
    clear HC39
    try clear c1
    try clear c2
    try clear p2
    try clear q2
    try clear hx2
    try clear c4
    try clear c5
    try clear c5b0
    try clear c5b1
    try clear c8
    try clear c16
    try clear c17
    try clear c18
    try clear c19
    try clear c22
    try clear p29
    try clear q29
    try clear hx29
    try clear c44
    try clear c44b0
    try clear c46
    try clear c46b0
    try clear c47
    try clear c47b0
    try clear hcz41_0
    try clear hcz41_1
    try clear hcz41_2
    try clear hcz41_3
    try clear hcz43_0
    try clear hcz43_1
    try clear hcz43_2
    try clear hcz43_3
    try clear hfz41_0
    try clear hfz41_1
    try clear hfz41_2
    try clear hfz41_3
    try clear hfz43_0
    try clear hfz43_1
    try clear hfz43_2
    try clear hfz43_3
    try clear hx294_0
    try clear p294
    try clear q294
    obtain ⟨kq, x52_38, rfl, HA, HJ38, BK275, HB⟩ := hcut
    cases kq with
    | zero => exact absurd HA.out (by simp [spec_unMake.j0])
    | succ kj38 =>
     have H := HA.out
     clear HA
     simp only [spec_unMake.j0] at H
     by_cases c49 : x52_38 = true
     ·subst c49
      have H1 : (some (([] : List ByteArray), false)) = some (r1, r2) := by rw [if_pos rfl] at H; exact H
      clear H
      have H := H1
      clear H1
      simp only [Option.some.injEq, Prod.mk.injEq] at H
      obtain ⟨rfl, rfl⟩ := H
      go_wp2
      go_ret2
      exact ⟨_, by first | rfl | (simp [errW_none, errW_some] <;> rfl) | (simp [*, errW_none, errW_some] <;> rfl), by first | exact Kd.R_nil _ _ _ _ _ | exact Kd.N_nil _ _ _ _ _ | exact Kd.V_nil _ _ _ _ _ | exact Kd.Q_nil _ _ _ _ _ | exact Kd.S_nil _ _ _ _ _, bb1_ HB GE275⟩
     ·replace c49 := Bool.eq_false_iff.mpr c49
      subst c49
      have H1 : ((some (([] : List ByteArray) : List ByteArray)).bind fun y295 => (if 0 ≤ a1_1 then (if a1_1 ≤ (l0.length : Int) then (if y295.length + (l0.take (a1_1 : Int).toNat).length < 8796093022208 then ((some (y295 ++ (l0.take (a1_1 : Int).toNat) : List ByteArray)).bind fun y299 => (if a1_0 = 2 then ((some (([a1_2] : List ByteArray) : List ByteArray)).bind fun y302 => (if y299.length + y302.length < 8796093022208 then ((some (y299 ++ y302 : List ByteArray)).bind fun y305 => (if 0 ≤ (wrap64 (a1_1 + 1)) then (if (wrap64 (a1_1 + 1)) ≤ (l0.length : Int) then (if y305.length + (l0.drop ((wrap64 (a1_1 + 1)) : Int).toNat).length < 8796093022208 then (some ((y305 ++ (l0.drop ((wrap64 (a1_1 + 1)) : Int).toNat)), true)) else (none)) else (none)) else (none))) else (none))) else (if 0 ≤ (wrap64 (a1_1 + 1)) then (if (wrap64 (a1_1 + 1)) ≤ (l0.length : Int) then (if y299.length + (l0.drop ((wrap64 (a1_1 + 1)) : Int).toNat).length < 8796093022208 then (some ((y299 ++ (l0.drop ((wrap64 (a1_1 + 1)) : Int).toNat)), true)) else (none)) else (none)) else (none)))) else (none)) else (none)) else (none))) = some (r1, r2) := by rw [if_neg (show ¬ (false = true) by decide)] at H; exact H
      clear H
      have H := H1
      clear H1
      obtain ⟨y295, hy295⟩ : ∃ y_ : List ByteArray, y_ = (([] : List ByteArray)) := ⟨_, rfl⟩
      replace H : (if 0 ≤ a1_1 then (if a1_1 ≤ (l0.length : Int) then (if y295.length + (l0.take (a1_1 : Int).toNat).length < 8796093022208 then ((some (y295 ++ (l0.take (a1_1 : Int).toNat) : List ByteArray)).bind fun y299 => (if a1_0 = 2 then ((some (([a1_2] : List ByteArray) : List ByteArray)).bind fun y302 => (if y299.length + y302.length < 8796093022208 then ((some (y299 ++ y302 : List ByteArray)).bind fun y305 => (if 0 ≤ (wrap64 (a1_1 + 1)) then (if (wrap64 (a1_1 + 1)) ≤ (l0.length : Int) then (if y305.length + (l0.drop ((wrap64 (a1_1 + 1)) : Int).toNat).length < 8796093022208 then (some ((y305 ++ (l0.drop ((wrap64 (a1_1 + 1)) : Int).toNat)), true)) else (none)) else (none)) else (none))) else (none))) else (if 0 ≤ (wrap64 (a1_1 + 1)) then (if (wrap64 (a1_1 + 1)) ≤ (l0.length : Int) then (if y299.length + (l0.drop ((wrap64 (a1_1 + 1)) : Int).toNat).length < 8796093022208 then (some ((y299 ++ (l0.drop ((wrap64 (a1_1 + 1)) : Int).toNat)), true)) else (none)) else (none)) else (none)))) else (none)) else (none)) else (none)) = some (r1, r2) := by first | (rw [hy295]; with_reducible exact H) | (have H2_ := (Option.bind_some _ _).symm.trans H; rw [hy295]; with_reducible exact H2_) | (have H2_ := (Option.bind_some _ _).symm.trans H; with_reducible exact H2_) | with_reducible exact H | (rw [hy295]; exact H) | exact H
      have Ny295 := Aside0.mk hy295
      clear hy295
      by_cases c50 : 0 ≤ a1_1
      ·rw [if_pos c50] at H
       have c50b0 := eq_true c50
       have c50b1 : decide (0 ≤ a1_1) = true := decide_eq_true c50
       clear c50
       by_cases c51 : a1_1 ≤ (l0.length : Int)
       ·rw [if_pos c51] at H
        have c51b0 := eq_true c51
        have c51b1 : decide (a1_1 ≤ (l0.length : Int)) = true := decide_eq_true c51
        clear c51
        by_cases c52 : y295.length + (l0.take (a1_1 : Int).toNat).length < 8796093022208
        ·rw [if_pos c52] at H
         have LMc52 := Aside0.mk c52
         clear c52
         obtain ⟨y299, hy299⟩ : ∃ y_ : List ByteArray, y_ = (y295 ++ (l0.take (a1_1 : Int).toNat)) := ⟨_, rfl⟩
         replace H : (if a1_0 = 2 then ((some (([a1_2] : List ByteArray) : List ByteArray)).bind fun y302 => (if y299.length + y302.length < 8796093022208 then ((some (y299 ++ y302 : List ByteArray)).bind fun y305 => (if 0 ≤ (wrap64 (a1_1 + 1)) then (if (wrap64 (a1_1 + 1)) ≤ (l0.length : Int) then (if y305.length + (l0.drop ((wrap64 (a1_1 + 1)) : Int).toNat).length < 8796093022208 then (some ((y305 ++ (l0.drop ((wrap64 (a1_1 + 1)) : Int).toNat)), true)) else (none)) else (none)) else (none))) else (none))) else (if 0 ≤ (wrap64 (a1_1 + 1)) then (if (wrap64 (a1_1 + 1)) ≤ (l0.length : Int) then (if y299.length + (l0.drop ((wrap64 (a1_1 + 1)) : Int).toNat).length < 8796093022208 then (some ((y299 ++ (l0.drop ((wrap64 (a1_1 + 1)) : Int).toNat)), true)) else (none)) else (none)) else (none))) = some (r1, r2) := by first | (rw [hy299]; with_reducible exact H) | (have H2_ := (Option.bind_some _ _).symm.trans H; rw [hy299]; with_reducible exact H2_) | (have H2_ := (Option.bind_some _ _).symm.trans H; with_reducible exact H2_) | with_reducible exact H | (rw [hy299]; exact H) | exact H
         have Ny299 := Aside0.mk hy299
         clear hy299
         by_cases c53 : a1_0 = 2
         ·rw [if_pos c53] at H
          have c53b0 : (a1_0 == 2) = true := beq_iff_eq.mpr c53
          have c53b1 : (a1_0 != 2) = false := bne_eq_false_iff_eq.mpr c53
          clear c53
          obtain ⟨y302, hy302⟩ : ∃ y_ : List ByteArray, y_ = (([a1_2] : List ByteArray)) := ⟨_, rfl⟩
          replace H : (if y299.length + y302.length < 8796093022208 then ((some (y299 ++ y302 : List ByteArray)).bind fun y305 => (if 0 ≤ (wrap64 (a1_1 + 1)) then (if (wrap64 (a1_1 + 1)) ≤ (l0.length : Int) then (if y305.length + (l0.drop ((wrap64 (a1_1 + 1)) : Int).toNat).length < 8796093022208 then (some ((y305 ++ (l0.drop ((wrap64 (a1_1 + 1)) : Int).toNat)), true)) else (none)) else (none)) else (none))) else (none)) = some (r1, r2) := by first | (rw [hy302]; with_reducible exact H) | (have H2_ := (Option.bind_some _ _).symm.trans H; rw [hy302]; with_reducible exact H2_) | (have H2_ := (Option.bind_some _ _).symm.trans H; with_reducible exact H2_) | with_reducible exact H | (rw [hy302]; exact H) | exact H
          have Ny302 := Aside0.mk hy302
          clear hy302
          by_cases c54 : y299.length + y302.length < 8796093022208
          ·rw [if_pos c54] at H
           have LMc54 := Aside0.mk c54
           clear c54
           obtain ⟨y305, hy305⟩ : ∃ y_ : List ByteArray, y_ = (y299 ++ y302) := ⟨_, rfl⟩
           replace H : (if 0 ≤ (wrap64 (a1_1 + 1)) then (if (wrap64 (a1_1 + 1)) ≤ (l0.length : Int) then (if y305.length + (l0.drop ((wrap64 (a1_1 + 1)) : Int).toNat).length < 8796093022208 then (some ((y305 ++ (l0.drop ((wrap64 (a1_1 + 1)) : Int).toNat)), true)) else (none)) else (none)) else (none)) = some (r1, r2) := by first | (rw [hy305]; with_reducible exact H) | (have H2_ := (Option.bind_some _ _).symm.trans H; rw [hy305]; with_reducible exact H2_) | (have H2_ := (Option.bind_some _ _).symm.trans H; with_reducible exact H2_) | with_reducible exact H | (rw [hy305]; exact H) | exact H
           have Ny305 := Aside0.mk hy305
           clear hy305
           obtain ⟨ji55, hji55⟩ : ∃ j_ : Int, (wrap64 (a1_1 + 1)) = j_ := ⟨_, rfl⟩
           replace H : (if 0 ≤ (ji55) then (if (ji55) ≤ (l0.length : Int) then (if y305.length + (l0.drop ((ji55) : Int).toNat).length < 8796093022208 then (some ((y305 ++ (l0.drop ((ji55) : Int).toNat)), true)) else (none)) else (none)) else (none)) = some (r1, r2) := by first | (rw [hji55] at H; exact H) | (simp only [hji55] at H ⊢; exact H)
           have hji55w : (IntKind.i64.wrap (a1_1 + 1)) = ji55 := (i64_w _).trans hji55
           by_cases c56 : 0 ≤ (ji55)
           ·rw [if_pos c56] at H
            have c56b0 := eq_true c56
            have c56b1 : decide (0 ≤ (ji55)) = true := decide_eq_true c56
            clear c56
            by_cases c57 : (ji55) ≤ (l0.length : Int)
            ·rw [if_pos c57] at H
             have c57b0 := eq_true c57
             have c57b1 : decide ((ji55) ≤ (l0.length : Int)) = true := decide_eq_true c57
             clear c57
             by_cases c58 : y305.length + (l0.drop ((ji55) : Int).toNat).length < 8796093022208
             ·rw [if_pos c58] at H
              have LMc58 := Aside0.mk c58
              clear c58
              obtain ⟨y309, hy309⟩ : ∃ y_ : List ByteArray, y_ = (y305 ++ (l0.drop ((ji55) : Int).toNat)) := ⟨_, rfl⟩
              replace H : (some (y309, true)) = some (r1, r2) := by first | (rw [hy309]; with_reducible exact H) | (have H2_ := (Option.bind_some _ _).symm.trans H; rw [hy309]; with_reducible exact H2_) | (have H2_ := (Option.bind_some _ _).symm.trans H; with_reducible exact H2_) | with_reducible exact H | (rw [hy309]; exact H) | exact H
              have Ny309 := Aside0.mk hy309
              clear hy309
              simp only [Option.some.injEq, Prod.mk.injEq] at H
              obtain ⟨rfl, rfl⟩ := H
              go_wp2_with (first | ((with_reducible refine gate_dst (N := 53) rfl ?_); (try (refine gate_guard (by rfl) ?_; dsimp only)); refine Kd.R_lit Kd.string _ 9 ?hg (N := 53) ?hd (xs := ([] : List ByteArray)) (inner := []) (ok := fun _ => True) (okp := fun _ => True) ?hr ?hp (fun _ hk => hk) trivial (Below.refl _ _) (Nat.le_refl _) (by simp) ?_; (case hd => rfl); (case hg => rfl); (case hr => first | (go_simp; done) | (go_simp; rfl)); (case hp => exact (Reps.none _ _)); intro v296 w59 ho60 hb hg_ hnew_; clear hg_ hnew_; (first | rw [← Ny295.out] at ho60 | (simp only [Int.reduceToNat] at ho60; rw [← Ny295.out] at ho60)); have n0_ := Aside0.mk (Kd.R_lower ho60 (below_size (bb1_ HB GE275))); have n1_ := Aside0.mk (lb_ BK275 hb); have n2_ := Aside0.mk (below_step (bb1_ HB GE275) hb); clear BK275; clear HB; have HO297 := n0_; have BK275 := n1_; have HB := n2_; clear n0_ n1_ n2_; clear hb ho60; have hcz61_0 := cz0_ BK275; have hcz61_1 := cz1_ BK275; have hcz61_2 := cz2_ BK275; have hcz61_3 := cz3_ BK275; have hfz61_0 := fz_ BK275 0; have hfz61_1 := fz_ BK275 1; have hfz61_2 := fz_ BK275 2; have hfz61_3 := fz_ BK275 3; obtain ⟨i062, hi062, _, hsz62, _⟩ := info_parts info9; obtain ⟨hcut62, hA62, hC62⟩ := print_take_of (P := Try.prog) Value.string (⟨#[]⟩ : ByteArray) 31 9 .i64 Try.underlying31 hi062 hsz62 A0 c0 l0 a1_1 (of_decide_eq_true as_) (of_decide_eq_true as_) HC0.out; have HR298 := Aside0.mk (Kd.C_of_reads (h1 := fun _ => rfl) (hA62 _ (Kd.reads_of_C HR0.out))); have HC298 := Aside0.mk hC62; clear hA62 hC62 hi062 hsz62) | ((with_reducible refine gate_builtin (b := .append) (xs := #[.tmp 53, .tmp 57]) rfl ?_); (try (refine gate_guard (by rfl) ?_; dsimp only)); at_builtin; refine Kd.R_append_rows Kd.string (w0 := w) w.heap.size rfl (.tmp 53) (.tmp 57) 31 9 (.string ⟨#[]⟩) 16 rfl Try.underlying31 info9 rfl (by decide) (by omega) v296 y295 (l0.take (a1_1 : Int).toNat) _ _ _ (fun _ => True) (fun _ => False) rfl rfl ?aO ?aR (fun _ _ h => h) (fun _ h => h.elim) ?aF ?aB ?aS ?aL ?_; (case aR => first | (refine reads_len (show (l0.take (a1_1 : Int).toNat).length = a1_1.toNat from (by rw [List.length_take]; have h_ : (a1_1 : Int) ≤ (l0.length : Int) := of_decide_eq_true as_; omega)) ?_; repeat (first | exact (Kd.C_below HR298.out HB.out) | (with_reducible first | apply cA_ | apply cN_ | apply cD_)); done) | (repeat (first | exact (Kd.C_below HR298.out HB.out) | (with_reducible first | apply cA_ | apply cN_ | apply cD_)); done)); (case aB => exact (bb1_ HB GE275)); (case aF => exact (fun _ _ => trivial)); (case aO => exact (ra_ HO297)); (case aS => exact (below_size (bb1_ HB GE275))); (case aL => have := LMc52.out; have hlx_ := (show (l0.take (a1_1 : Int).toNat).length = a1_1.toNat from (by rw [List.length_take]; have h_ : (a1_1 : Int) ≤ (l0.length : Int) := of_decide_eq_true as_; omega)); omega); intro v300 w63 ho hb hg hat; rw [← Ny299.out] at ho; have n0_ := Aside0.mk (blk_grown (g := gb275) (o := .cells #[.int .i64 a1_0, .int .i64 a1_1, .string a1_2, .string a1_3] 25 (0, 0)) (la_ BK275) hg (Kd.R_ne HO297.out BK275.out (by decide))); have n1_ := Aside0.mk (hb); have n2_ := Aside0.mk (ho); clear BK275; clear HB; clear HO297; have BK275 := n0_; have HB := n1_; have HO301 := n2_; clear n0_ n1_ n2_; clear ho hb hg hat; have hcz64_0 := cz0_ BK275; have hcz64_1 := cz1_ BK275; have hcz64_2 := cz2_ BK275; have hcz64_3 := cz3_ BK275; have hfz64_0 := fz_ BK275 0; have hfz64_1 := fz_ BK275 1; have hfz64_2 := fz_ BK275 2; have hfz64_3 := fz_ BK275 3) | ((with_reducible refine gate_dst (N := 65) rfl ?_); (try (refine gate_guard (by rfl) ?_; dsimp only)); refine Kd.R_lit Kd.string _ 9 ?hg (N := 65) ?hd (xs := ([a1_2] : List ByteArray)) (inner := [.string a1_2]) (ok := fun _ => True) (okp := fun _ => True) ?hr ?hp (fun _ hk => hk) trivial (Below.refl _ _) (Nat.le_refl _) (by simp) ?_; (case hd => rfl); (case hg => rfl); (case hr => first | (go_simp; done) | (go_simp; rfl)); (case hp => exact (Reps.one (show Kd.M Kd.string _ _ _ a1_2 [.string a1_2] from rfl) (Reps.none _ _))); intro v303 w65 ho66 hb hg_ hnew_; clear hg_ hnew_; (first | rw [← Ny302.out] at ho66 | (simp only [Int.reduceToNat] at ho66; rw [← Ny302.out] at ho66)); have n0_ := Aside0.mk (Kd.R_elder' (ra_ HO301) (Kd.R_base ho66) hb); have n1_ := Aside0.mk (Kd.R_lower (Kd.R_new' ho66 (Kd.R_lt (ra_ HO301))) (below_size (bb1_ HB GE275))); have n2_ := Aside0.mk (lb_ BK275 hb); have n3_ := Aside0.mk (below_step (bb1_ HB GE275) hb); clear HO301; clear BK275; clear HB; have HO301 := n0_; have HO304 := n1_; have BK275 := n2_; have HB := n3_; clear n0_ n1_ n2_ n3_; clear hb ho66; obtain ⟨Ao68, co68, eo68⟩ := Kd.R_slice HO304.out; subst eo68) | ((with_reducible refine gate_builtin (b := .append) (xs := #[.tmp 62, .tmp 65]) rfl ?_); (try (refine gate_guard (by rfl) ?_; dsimp only)); at_builtin; refine Kd.R_append_rows Kd.string (w0 := w) w.heap.size rfl (.tmp 62) (.tmp 65) 31 9 (.string ⟨#[]⟩) 16 rfl Try.underlying31 info9 rfl (by decide) (by omega) v300 y299 y302 _ _ _ (fun k_ => some k_ ≠ (.slice Ao68 y302.length co68 : Value).ownBlock) (fun _ => False) rfl rfl ?aO ?aR (fun _ _ h => h) (fun _ h => h.elim) ?aF ?aB ?aS ?aL ?_; (case aR => exact cr_ HO304); (case aB => exact (bb1_ HB GE275)); (case aF => exact (fun k_ hk => Kd.fresh' (Kd.R_lt (ra_ HO304)) k_ hk)); (case aO => exact (by (with_reducible repeat (first | apply rA_ | apply rN_ | apply rD_)); exact Kd.R_mono HO301.out (fun _ hk => hk.2))); (case aS => exact (below_size (bb1_ HB GE275))); (case aL => have := LMc54.out; omega); intro v306 w67 ho hb hg hat; rw [← Ny305.out] at ho; have n0_ := Aside0.mk (blk_grown (g := gb275) (o := .cells #[.int .i64 a1_0, .int .i64 a1_1, .string a1_2, .string a1_3] 25 (0, 0)) (la_ BK275) hg (Kd.R_ne HO301.out BK275.out (by decide))); have n1_ := Aside0.mk (Kd.R_after (ok := (fun _ => True)) (ra_ HO304) hg hat); have n2_ := Aside0.mk (hb); have n3_ := Aside0.mk (ho); clear BK275; clear HO304; clear HB; clear HO301; have BK275 := n0_; have HO304 := n1_; have HB := n2_; have HO307 := n3_; clear n0_ n1_ n2_ n3_; clear ho hb hg hat; have hcz69_0 := cz0_ BK275; have hcz69_1 := cz1_ BK275; have hcz69_2 := cz2_ BK275; have hcz69_3 := cz3_ BK275; have hfz69_0 := fz_ BK275 0; have hfz69_1 := fz_ BK275 1; have hfz69_2 := fz_ BK275 2; have hfz69_3 := fz_ BK275 3; obtain ⟨i070, hi070, _, hsz70, _⟩ := info_parts info9; obtain ⟨A70, hcut70, hA70, hC70⟩ := print_drop_of (P := Try.prog) Value.string (⟨#[]⟩ : ByteArray) 31 9 .i64 Try.underlying31 hi070 hsz70 A0 c0 l0 (ji55) (of_decide_eq_true as_) (of_decide_eq_true as_) HC0.out; have HR308 := Aside0.mk (Kd.C_of_reads (h1 := fun _ => rfl) (hA70 _ (Kd.reads_of_C HR0.out))); have HC308 := Aside0.mk hC70; clear hA70 hC70 hi070 hsz70) | ((with_reducible refine gate_builtin (b := .append) (xs := #[.tmp 67, .tmp 72]) rfl ?_); (try (refine gate_guard (by rfl) ?_; dsimp only)); at_builtin; refine Kd.R_append_rows Kd.string (w0 := w) w.heap.size rfl (.tmp 67) (.tmp 72) 31 9 (.string ⟨#[]⟩) 16 rfl Try.underlying31 info9 rfl (by decide) (by omega) v306 y305 (l0.drop ((ji55) : Int).toNat) _ _ _ (fun k_ => some k_ ≠ (.slice Ao68 y302.length co68 : Value).ownBlock) (fun _ => False) rfl rfl ?aO ?aR (fun _ _ h => h) (fun _ h => h.elim) ?aF ?aB ?aS ?aL ?_; (case aR => first | (refine reads_len (show (l0.drop ((ji55) : Int).toNat).length = (l0.length - (ji55).toNat) from List.length_drop) ?_; repeat (first | exact (Kd.C_below HR308.out HB.out) | (with_reducible first | apply cA_ | apply cN_ | apply cD_)); done) | (repeat (first | exact (Kd.C_below HR308.out HB.out) | (with_reducible first | apply cA_ | apply cN_ | apply cD_)); done)); (case aB => exact (bb1_ HB GE275)); (case aF => exact (fun k_ hk => Kd.fresh' (Kd.R_lt (ra_ HO304)) k_ hk)); (case aO => exact (ra_ HO307)); (case aS => exact (below_size (bb1_ HB GE275))); (case aL => have := LMc58.out; have hlx_ := (show (l0.drop ((ji55) : Int).toNat).length = (l0.length - (ji55).toNat) from List.length_drop); omega); intro v310 w71 ho hb hg hat; rw [← Ny309.out] at ho; have n0_ := Aside0.mk (blk_grown (g := gb275) (o := .cells #[.int .i64 a1_0, .int .i64 a1_1, .string a1_2, .string a1_3] 25 (0, 0)) (la_ BK275) hg (Kd.R_ne HO307.out BK275.out (by decide))); have n1_ := Aside0.mk (Kd.R_after (ok := (fun _ => True)) (ra_ HO304) hg hat); have n2_ := Aside0.mk (hb); have n3_ := Aside0.mk (ho); clear BK275; clear HO304; clear HB; clear HO307; have BK275 := n0_; have HO304 := n1_; have HB := n2_; have HO311 := n3_; clear n0_ n1_ n2_ n3_; clear ho hb hg hat))
              go_ret2
              exact ⟨_, by first | rfl | (simp [errW_none, errW_some] <;> rfl) | (simp only [← hji55]; first | rfl | (simp [errW_none, errW_some] <;> rfl)) | (simp [*, errW_none, errW_some] <;> rfl), by (with_reducible repeat (first | apply rA_ | apply rN_ | apply rD_)); exact Kd.R_mono HO311.out (fun _ hk => trivial), bb1_ HB GE275⟩
             ·rw [if_neg c58] at H
              exact absurd H (by simp)
            ·rw [if_neg c57] at H
             exact absurd H (by simp)
           ·rw [if_neg c56] at H
            exact absurd H (by simp)
          ·rw [if_neg c54] at H
           exact absurd H (by simp)
         ·rw [if_neg c53] at H
          have c53b0 : (a1_0 == 2) = false := beq_eq_false_iff_ne.mpr c53
          have c53b1 : (a1_0 != 2) = true := bne_iff_ne.mpr c53
          obtain ⟨ji72, hji72⟩ : ∃ j_ : Int, (wrap64 (a1_1 + 1)) = j_ := ⟨_, rfl⟩
          replace H : (if 0 ≤ (ji72) then (if (ji72) ≤ (l0.length : Int) then (if y299.length + (l0.drop ((ji72) : Int).toNat).length < 8796093022208 then (some ((y299 ++ (l0.drop ((ji72) : Int).toNat)), true)) else (none)) else (none)) else (none)) = some (r1, r2) := by first | (rw [hji72] at H; exact H) | (simp only [hji72] at H ⊢; exact H)
          have hji72w : (IntKind.i64.wrap (a1_1 + 1)) = ji72 := (i64_w _).trans hji72
          by_cases c73 : 0 ≤ (ji72)
          ·rw [if_pos c73] at H
           have c73b0 := eq_true c73
           have c73b1 : decide (0 ≤ (ji72)) = true := decide_eq_true c73
           clear c73
           by_cases c74 : (ji72) ≤ (l0.length : Int)
           ·rw [if_pos c74] at H
            have c74b0 := eq_true c74
            have c74b1 : decide ((ji72) ≤ (l0.length : Int)) = true := decide_eq_true c74
            clear c74
            by_cases c75 : y299.length + (l0.drop ((ji72) : Int).toNat).length < 8796093022208
            ·rw [if_pos c75] at H
             have LMc75 := Aside0.mk c75
             clear c75
             obtain ⟨y313, hy313⟩ : ∃ y_ : List ByteArray, y_ = (y299 ++ (l0.drop ((ji72) : Int).toNat)) := ⟨_, rfl⟩
             replace H : (some (y313, true)) = some (r1, r2) := by first | (rw [hy313]; with_reducible exact H) | (have H2_ := (Option.bind_some _ _).symm.trans H; rw [hy313]; with_reducible exact H2_) | (have H2_ := (Option.bind_some _ _).symm.trans H; with_reducible exact H2_) | with_reducible exact H | (rw [hy313]; exact H) | exact H
             have Ny313 := Aside0.mk hy313
             clear hy313
             simp only [Option.some.injEq, Prod.mk.injEq] at H
             obtain ⟨rfl, rfl⟩ := H
             go_wp2_with (first | ((with_reducible refine gate_dst (N := 53) rfl ?_); (try (refine gate_guard (by rfl) ?_; dsimp only)); refine Kd.R_lit Kd.string _ 9 ?hg (N := 53) ?hd (xs := ([] : List ByteArray)) (inner := []) (ok := fun _ => True) (okp := fun _ => True) ?hr ?hp (fun _ hk => hk) trivial (Below.refl _ _) (Nat.le_refl _) (by simp) ?_; (case hd => rfl); (case hg => rfl); (case hr => first | (go_simp; done) | (go_simp; rfl)); (case hp => exact (Reps.none _ _)); intro v296 w76 ho77 hb hg_ hnew_; clear hg_ hnew_; (first | rw [← Ny295.out] at ho77 | (simp only [Int.reduceToNat] at ho77; rw [← Ny295.out] at ho77)); have n0_ := Aside0.mk (Kd.R_lower ho77 (below_size (bb1_ HB GE275))); have n1_ := Aside0.mk (lb_ BK275 hb); have n2_ := Aside0.mk (below_step (bb1_ HB GE275) hb); clear BK275; clear HB; have HO297 := n0_; have BK275 := n1_; have HB := n2_; clear n0_ n1_ n2_; clear hb ho77; have hcz78_0 := cz0_ BK275; have hcz78_1 := cz1_ BK275; have hcz78_2 := cz2_ BK275; have hcz78_3 := cz3_ BK275; have hfz78_0 := fz_ BK275 0; have hfz78_1 := fz_ BK275 1; have hfz78_2 := fz_ BK275 2; have hfz78_3 := fz_ BK275 3; obtain ⟨i079, hi079, _, hsz79, _⟩ := info_parts info9; obtain ⟨hcut79, hA79, hC79⟩ := print_take_of (P := Try.prog) Value.string (⟨#[]⟩ : ByteArray) 31 9 .i64 Try.underlying31 hi079 hsz79 A0 c0 l0 a1_1 (of_decide_eq_true as_) (of_decide_eq_true as_) HC0.out; have HR298 := Aside0.mk (Kd.C_of_reads (h1 := fun _ => rfl) (hA79 _ (Kd.reads_of_C HR0.out))); have HC298 := Aside0.mk hC79; clear hA79 hC79 hi079 hsz79) | ((with_reducible refine gate_builtin (b := .append) (xs := #[.tmp 53, .tmp 57]) rfl ?_); (try (refine gate_guard (by rfl) ?_; dsimp only)); at_builtin; refine Kd.R_append_rows Kd.string (w0 := w) w.heap.size rfl (.tmp 53) (.tmp 57) 31 9 (.string ⟨#[]⟩) 16 rfl Try.underlying31 info9 rfl (by decide) (by omega) v296 y295 (l0.take (a1_1 : Int).toNat) _ _ _ (fun _ => True) (fun _ => False) rfl rfl ?aO ?aR (fun _ _ h => h) (fun _ h => h.elim) ?aF ?aB ?aS ?aL ?_; (case aR => first | (refine reads_len (show (l0.take (a1_1 : Int).toNat).length = a1_1.toNat from (by rw [List.length_take]; have h_ : (a1_1 : Int) ≤ (l0.length : Int) := of_decide_eq_true as_; omega)) ?_; repeat (first | exact (Kd.C_below HR298.out HB.out) | (with_reducible first | apply cA_ | apply cN_ | apply cD_)); done) | (repeat (first | exact (Kd.C_below HR298.out HB.out) | (with_reducible first | apply cA_ | apply cN_ | apply cD_)); done)); (case aB => exact (bb1_ HB GE275)); (case aF => exact (fun _ _ => trivial)); (case aO => exact (ra_ HO297)); (case aS => exact (below_size (bb1_ HB GE275))); (case aL => have := LMc52.out; have hlx_ := (show (l0.take (a1_1 : Int).toNat).length = a1_1.toNat from (by rw [List.length_take]; have h_ : (a1_1 : Int) ≤ (l0.length : Int) := of_decide_eq_true as_; omega)); omega); intro v300 w80 ho hb hg hat; rw [← Ny299.out] at ho; have n0_ := Aside0.mk (blk_grown (g := gb275) (o := .cells #[.int .i64 a1_0, .int .i64 a1_1, .string a1_2, .string a1_3] 25 (0, 0)) (la_ BK275) hg (Kd.R_ne HO297.out BK275.out (by decide))); have n1_ := Aside0.mk (hb); have n2_ := Aside0.mk (ho); clear BK275; clear HB; clear HO297; have BK275 := n0_; have HB := n1_; have HO301 := n2_; clear n0_ n1_ n2_; clear ho hb hg hat; have hcz81_0 := cz0_ BK275; have hcz81_1 := cz1_ BK275; have hcz81_2 := cz2_ BK275; have hcz81_3 := cz3_ BK275; have hfz81_0 := fz_ BK275 0; have hfz81_1 := fz_ BK275 1; have hfz81_2 := fz_ BK275 2; have hfz81_3 := fz_ BK275 3; obtain ⟨i082, hi082, _, hsz82, _⟩ := info_parts info9; obtain ⟨A82, hcut82, hA82, hC82⟩ := print_drop_of (P := Try.prog) Value.string (⟨#[]⟩ : ByteArray) 31 9 .i64 Try.underlying31 hi082 hsz82 A0 c0 l0 (ji72) (of_decide_eq_true as_) (of_decide_eq_true as_) HC0.out; have HR312 := Aside0.mk (Kd.C_of_reads (h1 := fun _ => rfl) (hA82 _ (Kd.reads_of_C HR0.out))); have HC312 := Aside0.mk hC82; clear hA82 hC82 hi082 hsz82) | ((with_reducible refine gate_builtin (b := .append) (xs := #[.tmp 67, .tmp 72]) rfl ?_); (try (refine gate_guard (by rfl) ?_; dsimp only)); at_builtin; refine Kd.R_append_rows Kd.string (w0 := w) w.heap.size rfl (.tmp 67) (.tmp 72) 31 9 (.string ⟨#[]⟩) 16 rfl Try.underlying31 info9 rfl (by decide) (by omega) v300 y299 (l0.drop ((ji72) : Int).toNat) _ _ _ (fun _ => True) (fun _ => False) rfl rfl ?aO ?aR (fun _ _ h => h) (fun _ h => h.elim) ?aF ?aB ?aS ?aL ?_; (case aR => first | (refine reads_len (show (l0.drop ((ji72) : Int).toNat).length = (l0.length - (ji72).toNat) from List.length_drop) ?_; repeat (first | exact (Kd.C_below HR312.out HB.out) | (with_reducible first | apply cA_ | apply cN_ | apply cD_)); done) | (repeat (first | exact (Kd.C_below HR312.out HB.out) | (with_reducible first | apply cA_ | apply cN_ | apply cD_)); done)); (case aB => exact (bb1_ HB GE275)); (case aF => exact (fun _ _ => trivial)); (case aO => exact (ra_ HO301)); (case aS => exact (below_size (bb1_ HB GE275))); (case aL => have := LMc75.out; have hlx_ := (show (l0.drop ((ji72) : Int).toNat).length = (l0.length - (ji72).toNat) from List.length_drop); omega); intro v314 w83 ho hb hg hat; rw [← Ny313.out] at ho; have n0_ := Aside0.mk (blk_grown (g := gb275) (o := .cells #[.int .i64 a1_0, .int .i64 a1_1, .string a1_2, .string a1_3] 25 (0, 0)) (la_ BK275) hg (Kd.R_ne HO301.out BK275.out (by decide))); have n1_ := Aside0.mk (hb); have n2_ := Aside0.mk (ho); clear BK275; clear HB; clear HO301; have BK275 := n0_; have HB := n1_; have HO315 := n2_; clear n0_ n1_ n2_; clear ho hb hg hat))
             go_ret2
             exact ⟨_, by first | rfl | (simp [errW_none, errW_some] <;> rfl) | (simp only [← hji72]; first | rfl | (simp [errW_none, errW_some] <;> rfl)) | (simp [*, errW_none, errW_some] <;> rfl), by (with_reducible repeat (first | apply rA_ | apply rN_ | apply rD_)); exact HO315.out, bb1_ HB GE275⟩
            ·rw [if_neg c75] at H
             exact absurd H (by simp)
           ·rw [if_neg c74] at H
            exact absurd H (by simp)
          ·rw [if_neg c73] at H
           exact absurd H (by simp)
        ·rw [if_neg c52] at H
         exact absurd H (by simp)
       ·rw [if_neg c51] at H
        exact absurd H (by simp)
      ·rw [if_neg c50] at H
       exact absurd H (by simp)
 ·replace c4 := Bool.eq_false_iff.mpr c4
  subst c4
  have H1 : (some (([] : List ByteArray), false)) = some (r1, r2) := by rw [if_neg (show ¬ (false = true) by decide)] at H; exact H
  clear H
  have H := H1
  clear H1
  simp only [Option.some.injEq, Prod.mk.injEq] at H
  obtain ⟨rfl, rfl⟩ := H
  go_enter Try.func84, Try.ntmps84
  go_wp2_with (first | ((with_reducible refine gate_dst (N := 3) rfl ?_); (try (refine gate_guard (by rfl) ?_; dsimp only)); refine box_event ?hg (N := 3) ?hd (cs := #[.int .i64 a1_0, .int .i64 a1_1, .string a1_2, .string a1_3]) (t := 25) ?hr ?_; (case hd => rfl); (case hg => rfl); (case hr => first | (go_simp; done) | (go_simp; rfl)); intro gb275 hg w84 hbox hb; have n0_ := Aside0.mk (bt_ HB hb); have n1_ := Aside0.mk (hbox); have n2_ := gz_ hg HB; have n3_ := gz_ hg HB; clear HB; have HB := n0_; have BK275 := n1_; have GW275 := n2_; have GE275 := n3_; clear n0_ n1_ n2_ n3_; clear hb hbox hg; have hcz85_0 := cz0_ BK275; have hcz85_1 := cz1_ BK275; have hcz85_2 := cz2_ BK275; have hcz85_3 := cz3_ BK275; have hfz85_0 := fz_ BK275 0; have hfz85_1 := fz_ BK275 1; have hfz85_2 := fz_ BK275 2; have hfz85_3 := fz_ BK275 3) | ((with_reducible refine gate_callee (f := 49) rfl ?_); refine goesL_ (some 8) rfl rfl Try.func49 (by kernel_rfl) rfl #[.agg #[.int .i64 a1_0, .int .i64 a1_1, .string a1_2, .string a1_3]] rfl args_ ?_; (with_reducible refine (spec_unEdit.calls k a1_0 a1_1 a1_2 a1_3 false _ A3.out).mono ?_); rintro e w86 ⟨rfl, hb⟩; refine ⟨_, rfl, ?_⟩; have n0_ := Aside0.mk (lb_ BK275 hb); have n1_ := Aside0.mk (below_step (bb1_ HB GE275) hb); clear BK275; clear HB; have BK275 := n0_; have HB := n1_; clear n0_ n1_; (try clear hb); (try clear hb2); (try clear hk); (try clear hi)))
  go_ret2
  exact ⟨_, by first | rfl | (simp [errW_none, errW_some] <;> rfl) | (simp [*, errW_none, errW_some] <;> rfl), by first | exact Kd.R_nil _ _ _ _ _ | exact Kd.N_nil _ _ _ _ _ | exact Kd.V_nil _ _ _ _ _ | exact Kd.Q_nil _ _ _ _ _ | exact Kd.S_nil _ _ _ _ _, bb1_ HB GE275⟩

/-! ### spec_unAfter: function 64 -/
def spec_unAfter.l0 : Nat → List ByteArray → List (S25) → Int → Int → Option (List ByteArray × Bool)
 | 0, _, _, _, _ => none
 | k + 1, x6, x14, x15, x16 => if x16 < x15 then (if 0 ≤ x16 then (if x16 < (x14.length : Int) then ((spec_unMake.f k x6 ((rd_T25 x14 x16).f0) ((rd_T25 x14 x16).f1) ((rd_T25 x14 x16).f2) ((rd_T25 x14 x16).f3)).bind fun bt324 => (if bt324.2 = true then (spec_unAfter.l0 k bt324.1 x14 x15 (wrap64 (x16 + 1))) else (some (([] : List ByteArray), false)))) else (none)) else (none)) else (some (x6, true))
def spec_unAfter.f (k : Nat) (l0 : List ByteArray) (l1 : List (S25)) : Option (List ByteArray × Bool) := (some (([] : List ByteArray) : List ByteArray)).bind fun y316 => (if y316.length + l0.length < 8796093022208 then (spec_unAfter.l0 k (y316 ++ l0) l1 (l1.length : Int) 0) else (none))
theorem spec_unAfter.mono_l : ∀ k, (∀ y0 y1 y2 y3, LeO (spec_unAfter.l0 k y0 y1 y2 y3) (spec_unAfter.l0 (k + 1) y0 y1 y2 y3))
 | 0 => fun _ _ _ _ r h => by simp [spec_unAfter.l0] at h
 | k + 1 => by
  have ih0 := spec_unAfter.mono_l k
  ·intro y0 y1 y2 y3
   unfold spec_unAfter.l0
   repeat' first
   | (with_reducible exact ih0 _ _ _ _)
   | (with_reducible exact spec_unMake.mono _ _ _ _ _ _)
   | (with_reducible exact LeO.refl _)
   | (with_reducible exact LeO.none _)
   | (with_reducible refine LeO.ite ?_ ?_)
   | (with_reducible refine LeO.bind ?_ (fun _ => ?_))
   | exact ih0 _ _ _ _
   | exact LeO.none _
   | refine LeO.ite ?_ ?_
   | refine LeO.bind ?_ (fun _ => ?_)
theorem spec_unAfter.mono : ∀ a0 a1 k, LeO (spec_unAfter.f k a0 a1) (spec_unAfter.f (k + 1) a0 a1) := by
 intro a0 a1 k
 have ih0 := spec_unAfter.mono_l k
 unfold spec_unAfter.f
 repeat' first
   | (with_reducible exact ih0 _ _ _ _)
   | (with_reducible exact spec_unMake.mono _ _ _ _ _ _)
   | (with_reducible exact LeO.refl _)
   | (with_reducible exact LeO.none _)
   | (with_reducible refine LeO.ite ?_ ?_)
   | (with_reducible refine LeO.bind ?_ (fun _ => ?_))
   | exact ih0 _ _ _ _
   | exact LeO.none _
   | refine LeO.ite ?_ ?_
   | refine LeO.bind ?_ (fun _ => ?_)
set_option maxHeartbeats 8000000 in
set_option maxRecDepth 100000 in
theorem spec_unAfter.calls (k : Nat) (A0 : Option Addr) (c0 : Nat) (l0 : List ByteArray) (A1 : Option Addr) (c1 : Nat) (l1 : List (S25)) (r1 : List ByteArray) (r2 : Bool) (w : World) (hr0 : Kd.C Kd.string w A0 l0.length l0) (hc0 : l0.length ≤ c0) (hr1 : Kd.C k25 w A1 l1.length l1) (hc1 : l1.length ≤ c1) (h : spec_unAfter.f k l0 l1 = some (r1, r2)) :
  Calls Try.prog 64 #[.slice A0 l0.length c0, .slice A1 l1.length c1] w fun e w' => ∃ v0_ : Value, e = .returned (.tuple #[v0_, .bool r2]) ∧ Kd.R Kd.string 9 w' w.heap.size (fun _ => True) v0_ r1 ∧ Below w.heap.size w w' := by
 have hu25 := Try.underlying25
 have HR0 := Aside0.mk hr0
 have HC0 := Aside0.mk hc0
 clear hr0 hc0
 have HR1 := Aside0.mk hr1
 have HC1 := Aside0.mk hc1
 clear hr1 hc1
 have HB := Aside0.mk (Below.refl w.heap.size w)
 have H : ((some (([] : List ByteArray) : List ByteArray)).bind fun y316 => (if y316.length + l0.length < 8796093022208 then (spec_unAfter.l0 k (y316 ++ l0) l1 (l1.length : Int) 0) else (none))) = some (r1, r2) := h
 clear h
 obtain ⟨y316, hy316⟩ : ∃ y_ : List ByteArray, y_ = (([] : List ByteArray)) := ⟨_, rfl⟩
 replace H : (if y316.length + l0.length < 8796093022208 then (spec_unAfter.l0 k (y316 ++ l0) l1 (l1.length : Int) 0) else (none)) = some (r1, r2) := by first | (rw [hy316]; with_reducible exact H) | (have H2_ := (Option.bind_some _ _).symm.trans H; rw [hy316]; with_reducible exact H2_) | (have H2_ := (Option.bind_some _ _).symm.trans H; with_reducible exact H2_) | with_reducible exact H | (rw [hy316]; exact H) | exact H
 have Ny316 := Aside0.mk hy316
 clear hy316
 by_cases c3 : y316.length + l0.length < 8796093022208
 ·rw [if_pos c3] at H
  have LMc3 := Aside0.mk c3
  clear c3
  obtain ⟨y319, hy319⟩ : ∃ y_ : List ByteArray, y_ = (y316 ++ l0) := ⟨_, rfl⟩
  replace H : (spec_unAfter.l0 k y319 l1 (l1.length : Int) 0) = some (r1, r2) := by first | (rw [hy319]; with_reducible exact H) | (have H2_ := (Option.bind_some _ _).symm.trans H; rw [hy319]; with_reducible exact H2_) | (have H2_ := (Option.bind_some _ _).symm.trans H; with_reducible exact H2_) | with_reducible exact H | (rw [hy319]; exact H) | exact H
  have Ny319 := Aside0.mk hy319
  clear hy319
  have H' := Aside0.mk H
  clear H
  go_enter Try.func64, Try.ntmps64
  go_wp2_with (first | ((with_reducible refine gate_dst (N := 11) rfl ?_); refine Kd.R_lit Kd.string _ 9 ?hg (N := 11) ?hd (xs := ([] : List ByteArray)) (inner := []) (ok := fun _ => True) (okp := fun _ => True) ?hr ?hp (fun _ hk => hk) trivial (Below.refl _ _) (Nat.le_refl _) (by simp) ?_; (case hd => rfl); (case hg => rfl); (case hr => first | (go_simp; done) | (go_simp; rfl)); (case hp => exact (Reps.none _ _)); intro v317 w4 ho5 hb hg_ hnew_; clear hg_ hnew_; (first | rw [← Ny316.out] at ho5 | (simp only [Int.reduceToNat] at ho5; rw [← Ny316.out] at ho5)); have n0_ := Aside0.mk (Kd.R_lower ho5 (bz_ HB)); have n1_ := Aside0.mk (bt_ HB hb); clear HB; have HO318 := n0_; have HB := n1_; clear n0_ n1_; clear hb ho5) | ((with_reducible refine gate_builtin (b := .append) (xs := #[.tmp 11, .tmp 12]) rfl ?_); at_builtin; refine Kd.R_append_rows Kd.string (w0 := w) w.heap.size rfl (.tmp 11) (.tmp 12) 31 9 (.string ⟨#[]⟩) 16 rfl Try.underlying31 info9 rfl (by decide) (by omega) v317 y316 l0 _ _ _ (fun _ => True) (fun _ => False) rfl rfl ?aO ?aR (fun _ _ h => h) (fun _ h => h.elim) ?aF ?aB ?aS ?aL ?_; (case aR => exact cb_ HR0 HB); (case aB => exact (bb_ HB)); (case aF => exact (fun _ _ => trivial)); (case aO => exact (ra_ HO318)); (case aS => exact (bz_ HB)); (case aL => have := LMc3.out; omega); intro v320 w6 ho hb hg hat; rw [← Ny319.out] at ho; have n0_ := Aside0.mk (hb); have n1_ := Aside0.mk (ho); clear HB; clear HO318; have HB := n0_; have HO321 := n1_; clear n0_ n1_; clear ho hb hg hat))
  go_loopg [6, 16] k (fun kq v6 v16 w' => ∃ (x6_1 : List ByteArray) (x16_1 : Int), v16 = .int .i64 x16_1 ∧ Aside0 (spec_unAfter.l0 kq x6_1 l1 (l1.length : Int) x16_1 = some (r1, r2)) ∧ Aside0 (kq ≤ k) ∧ Aside0 (Kd.R Kd.string 9 w' w.heap.size (fun _ => True) v6 x6_1) ∧ Aside0 (Below w.heap.size w w'))
  case atStart => exact ⟨(y319), (0), (by first | rfl | (simp; done) | (simp [*]; done)), H', ⟨Nat.le_refl _⟩, ⟨by (with_reducible repeat (first | apply rA_ | apply rN_ | apply rD_)); exact HO321.out⟩, ⟨bb_ HB⟩⟩
  case round =>
   clear H'
   try clear c1
   try clear p2
   try clear c3
   try clear c6
   obtain ⟨x6_1, x16_1, rfl, HA, HK1, HO_6, HB⟩ := hrel
   cases gk with
   | zero => exact absurd HA.out (by simp [spec_unAfter.l0])
   | succ k1 =>
    have H := HA.out
    clear HA
    simp only [spec_unAfter.l0] at H
    by_cases c7 : x16_1 < (l1.length : Int)
    ·rw [if_pos c7] at H
     have c7b0 : decide (x16_1 < (l1.length : Int)) = true := decide_eq_true c7
     clear c7
     by_cases c8 : 0 ≤ x16_1
     ·rw [if_pos c8] at H
      have c8b0 : decide (0 ≤ x16_1) = true := decide_eq_true c8
      clear c8
      by_cases c9 : x16_1 < (l1.length : Int)
      ·rw [if_pos c9] at H
       have c9b0 : decide (x16_1 < (l1.length : Int)) = true := decide_eq_true c9
       clear c9
       replace H := Option.bind_eq_some_iff.mp H
       obtain ⟨⟨t324, t327⟩, A100, H⟩ := H
       try dsimp only at H
       have A10 := Aside0.mk A100
       clear A100
       by_cases c11 : t327 = true
       ·subst c11
        have H1 : (spec_unAfter.l0 k1 t324 l1 (l1.length : Int) (wrap64 (x16_1 + 1))) = some (r1, r2) := by rw [if_pos rfl] at H; exact H
        clear H
        have H := H1
        clear H1
        have H' := Aside0.mk H
        clear H
        have p322 : 0 ≤ (x16_1 : Int) := of_decide_eq_true as_
        have q322 : x16_1 < (l1.length : Int) := of_decide_eq_true as_
        obtain ⟨ad322, e322, hx322_0, hx322_1, hx322_2, hx322_3⟩ := at_T25 HR1.out x16_1 p322 q322
        cases e322
        replace hx322_0 := hc_ HB hx322_0
        replace hx322_1 := hc_ HB hx322_1
        replace hx322_2 := hc_ HB hx322_2
        replace hx322_3 := hc_ HB hx322_3
        replace p322 := eq_true p322
        replace q322 := eq_true q322
        go_wp2_with (first | ((with_reducible refine gate_dst (N := 8) rfl ?_); refine box_event ?hg (N := 8) ?hd (cs := #[.int .i64 0, .int .i64 0, .string (⟨#[]⟩ : ByteArray), .string (⟨#[]⟩ : ByteArray)]) (t := 25) ?hr ?_; (case hd => rfl); (case hg => rfl); (case hr => first | (go_simp; done) | (go_simp; rfl)); intro gb323 hg w12 hbox hb; have n0_ := Aside0.mk (Kd.R_below (ra_ HO_6) hb); have n1_ := Aside0.mk (bt_ HB hb); have n2_ := Aside0.mk (hbox); have n3_ := gz_ hg HB; have n4_ := gz_ hg HB; clear HO_6; clear HB; have HO_6 := n0_; have HB := n1_; have BK323 := n2_; have GW323 := n3_; have GE323 := n4_; clear n0_ n1_ n2_ n3_ n4_; clear hb hbox hg; have hcz13_0 := cz0_ BK323; have hcz13_1 := cz1_ BK323; have hcz13_2 := cz2_ BK323; have hcz13_3 := cz3_ BK323; have hfz13_0 := fz_ BK323 0; have hfz13_1 := fz_ BK323 1; have hfz13_2 := fz_ BK323 2; have hfz13_3 := fz_ BK323 3; obtain ⟨Ao14, co14, eo14⟩ := Kd.R_slice HO_6.out; subst eo14) | ((with_reducible refine gate_callee (f := 84) rfl ?_); refine goesL_ (some 23) rfl rfl Try.func84 (by kernel_rfl) rfl #[.slice Ao14 x6_1.length co14, .agg #[.int .i64 ((rd_T25 l1 x16_1).f0), .int .i64 ((rd_T25 l1 x16_1).f1), .string ((rd_T25 l1 x16_1).f2), .string ((rd_T25 l1 x16_1).f3)]] rfl args_ ?_; (with_reducible refine (spec_unMake.calls k1 _ _ x6_1 ((rd_T25 l1 x16_1).f0) ((rd_T25 l1 x16_1).f1) ((rd_T25 l1 x16_1).f2) ((rd_T25 l1 x16_1).f3) t324 true _ ?side1 ?side2 A10.out).mono ?_); (case side1 => refine (Kd.R_reads' (e := 9) (base := w.heap.size) (ok := fun k_ => True) (n := x6_1.length) (c := co14) ?_).2.2; exact (rf_ (fm_ (fr_ (fr_ (fr_ (fr_ (ft_ HO_6 BK323) 0 (.int .i64 ((rd_T25 l1 x16_1).f0))) 1 (.int .i64 ((rd_T25 l1 x16_1).f1))) 2 (.string ((rd_T25 l1 x16_1).f2))) 3 (.string ((rd_T25 l1 x16_1).f3)))))); (case side2 => exact (Kd.R_reads' HO_6.out).2.1); rintro e w15 ⟨v325, rfl, ho0, hb⟩; refine ⟨_, rfl, ?_⟩; have n0_ := Aside0.mk (Kd.R_elder' (rf_ (fm_ (fr_ (fr_ (fr_ (fr_ (ft_ HO_6 BK323) 0 (.int .i64 ((rd_T25 l1 x16_1).f0))) 1 (.int .i64 ((rd_T25 l1 x16_1).f1))) 2 (.string ((rd_T25 l1 x16_1).f2))) 3 (.string ((rd_T25 l1 x16_1).f3))))) (Kd.R_base ho0) hb); have n1_ := Aside0.mk (Kd.R_lower (Kd.R_new' ho0 (Kd.R_lt (rf_ (fm_ (fr_ (fr_ (fr_ (fr_ (ft_ HO_6 BK323) 0 (.int .i64 ((rd_T25 l1 x16_1).f0))) 1 (.int .i64 ((rd_T25 l1 x16_1).f1))) 2 (.string ((rd_T25 l1 x16_1).f2))) 3 (.string ((rd_T25 l1 x16_1).f3))))))) (below_size (bb1_ HB GE323))); have n2_ := Aside0.mk (blk_below (g := gb323) (o := .cells #[.int .i64 ((rd_T25 l1 x16_1).f0), .int .i64 ((rd_T25 l1 x16_1).f1), .string ((rd_T25 l1 x16_1).f2), .string ((rd_T25 l1 x16_1).f3)] 25 (0, 0)) (by (with_reducible repeat (first | apply lN_ | apply lD_ | apply lA_)); refine blk_put (cs := #[.int .i64 ((rd_T25 l1 x16_1).f0), .int .i64 ((rd_T25 l1 x16_1).f1), .string ((rd_T25 l1 x16_1).f2), .string (⟨#[]⟩ : ByteArray)]) ?_ 3 _ rfl; (with_reducible repeat (first | apply lN_ | apply lD_ | apply lA_)); refine blk_put (cs := #[.int .i64 ((rd_T25 l1 x16_1).f0), .int .i64 ((rd_T25 l1 x16_1).f1), .string (⟨#[]⟩ : ByteArray), .string (⟨#[]⟩ : ByteArray)]) ?_ 2 _ rfl; (with_reducible repeat (first | apply lN_ | apply lD_ | apply lA_)); refine blk_put (cs := #[.int .i64 ((rd_T25 l1 x16_1).f0), .int .i64 0, .string (⟨#[]⟩ : ByteArray), .string (⟨#[]⟩ : ByteArray)]) ?_ 1 _ rfl; (with_reducible repeat (first | apply lN_ | apply lD_ | apply lA_)); refine blk_put (cs := #[.int .i64 0, .int .i64 0, .string (⟨#[]⟩ : ByteArray), .string (⟨#[]⟩ : ByteArray)]) ?_ 0 _ rfl; (with_reducible repeat (first | apply lN_ | apply lD_ | apply lA_)); exact BK323.out) hb); have n3_ := Aside0.mk (below_step (bb1_ HB GE323) hb); clear HO_6; clear BK323; clear HB; have HO_6 := n0_; have HO326 := n1_; have BK323 := n2_; have HB := n3_; clear n0_ n1_ n2_ n3_; (try clear hb); (try clear hb2); (try clear hk); (try clear hi); (try clear ho0)))
        go_roundg k1
        case measure => have := HK1.out; omega
        case rel => exact ⟨(t324), (wrap64 (x16_1 + 1)), (by first | rfl | (simp; done) | (simp [*]; done)), H', ⟨by have := HK1.out; omega⟩, ⟨by (with_reducible repeat (first | apply rA_ | apply rN_ | apply rD_)); exact Kd.R_mono HO326.out (fun _ hk => trivial)⟩, ⟨bb1_ HB GE323⟩⟩
       ·replace c11 := Bool.eq_false_iff.mpr c11
        subst c11
        have H1 : (some (([] : List ByteArray), false)) = some (r1, r2) := by rw [if_neg (show ¬ (false = true) by decide)] at H; exact H
        clear H
        have H := H1
        clear H1
        simp only [Option.some.injEq, Prod.mk.injEq] at H
        obtain ⟨rfl, rfl⟩ := H
        have p322 : 0 ≤ (x16_1 : Int) := of_decide_eq_true as_
        have q322 : x16_1 < (l1.length : Int) := of_decide_eq_true as_
        obtain ⟨ad322, e322, hx322_0, hx322_1, hx322_2, hx322_3⟩ := at_T25 HR1.out x16_1 p322 q322
        cases e322
        replace hx322_0 := hc_ HB hx322_0
        replace hx322_1 := hc_ HB hx322_1
        replace hx322_2 := hc_ HB hx322_2
        replace hx322_3 := hc_ HB hx322_3
        replace p322 := eq_true p322
        replace q322 := eq_true q322
        go_wp2_with (first | ((with_reducible refine gate_dst (N := 8) rfl ?_); refine box_event ?hg (N := 8) ?hd (cs := #[.int .i64 0, .int .i64 0, .string (⟨#[]⟩ : ByteArray), .string (⟨#[]⟩ : ByteArray)]) (t := 25) ?hr ?_; (case hd => rfl); (case hg => rfl); (case hr => first | (go_simp; done) | (go_simp; rfl)); intro gb323 hg w16 hbox hb; have n0_ := Aside0.mk (Kd.R_below (ra_ HO_6) hb); have n1_ := Aside0.mk (bt_ HB hb); have n2_ := Aside0.mk (hbox); have n3_ := gz_ hg HB; have n4_ := gz_ hg HB; clear HO_6; clear HB; have HO_6 := n0_; have HB := n1_; have BK323 := n2_; have GW323 := n3_; have GE323 := n4_; clear n0_ n1_ n2_ n3_ n4_; clear hb hbox hg; have hcz17_0 := cz0_ BK323; have hcz17_1 := cz1_ BK323; have hcz17_2 := cz2_ BK323; have hcz17_3 := cz3_ BK323; have hfz17_0 := fz_ BK323 0; have hfz17_1 := fz_ BK323 1; have hfz17_2 := fz_ BK323 2; have hfz17_3 := fz_ BK323 3; obtain ⟨Ao18, co18, eo18⟩ := Kd.R_slice HO_6.out; subst eo18) | ((with_reducible refine gate_callee (f := 84) rfl ?_); refine goesL_ (some 23) rfl rfl Try.func84 (by kernel_rfl) rfl #[.slice Ao18 x6_1.length co18, .agg #[.int .i64 ((rd_T25 l1 x16_1).f0), .int .i64 ((rd_T25 l1 x16_1).f1), .string ((rd_T25 l1 x16_1).f2), .string ((rd_T25 l1 x16_1).f3)]] rfl args_ ?_; (with_reducible refine (spec_unMake.calls k1 _ _ x6_1 ((rd_T25 l1 x16_1).f0) ((rd_T25 l1 x16_1).f1) ((rd_T25 l1 x16_1).f2) ((rd_T25 l1 x16_1).f3) t324 false _ ?side1 ?side2 A10.out).mono ?_); (case side1 => refine (Kd.R_reads' (e := 9) (base := w.heap.size) (ok := fun k_ => True) (n := x6_1.length) (c := co18) ?_).2.2; exact (rf_ (fm_ (fr_ (fr_ (fr_ (fr_ (ft_ HO_6 BK323) 0 (.int .i64 ((rd_T25 l1 x16_1).f0))) 1 (.int .i64 ((rd_T25 l1 x16_1).f1))) 2 (.string ((rd_T25 l1 x16_1).f2))) 3 (.string ((rd_T25 l1 x16_1).f3)))))); (case side2 => exact (Kd.R_reads' HO_6.out).2.1); rintro e w19 ⟨v325, rfl, ho0, hb⟩; refine ⟨_, rfl, ?_⟩; have n0_ := Aside0.mk (Kd.R_elder' (rf_ (fm_ (fr_ (fr_ (fr_ (fr_ (ft_ HO_6 BK323) 0 (.int .i64 ((rd_T25 l1 x16_1).f0))) 1 (.int .i64 ((rd_T25 l1 x16_1).f1))) 2 (.string ((rd_T25 l1 x16_1).f2))) 3 (.string ((rd_T25 l1 x16_1).f3))))) (Kd.R_base ho0) hb); have n1_ := Aside0.mk (Kd.R_lower (Kd.R_new' ho0 (Kd.R_lt (rf_ (fm_ (fr_ (fr_ (fr_ (fr_ (ft_ HO_6 BK323) 0 (.int .i64 ((rd_T25 l1 x16_1).f0))) 1 (.int .i64 ((rd_T25 l1 x16_1).f1))) 2 (.string ((rd_T25 l1 x16_1).f2))) 3 (.string ((rd_T25 l1 x16_1).f3))))))) (below_size (bb1_ HB GE323))); have n2_ := Aside0.mk (blk_below (g := gb323) (o := .cells #[.int .i64 ((rd_T25 l1 x16_1).f0), .int .i64 ((rd_T25 l1 x16_1).f1), .string ((rd_T25 l1 x16_1).f2), .string ((rd_T25 l1 x16_1).f3)] 25 (0, 0)) (by (with_reducible repeat (first | apply lN_ | apply lD_ | apply lA_)); refine blk_put (cs := #[.int .i64 ((rd_T25 l1 x16_1).f0), .int .i64 ((rd_T25 l1 x16_1).f1), .string ((rd_T25 l1 x16_1).f2), .string (⟨#[]⟩ : ByteArray)]) ?_ 3 _ rfl; (with_reducible repeat (first | apply lN_ | apply lD_ | apply lA_)); refine blk_put (cs := #[.int .i64 ((rd_T25 l1 x16_1).f0), .int .i64 ((rd_T25 l1 x16_1).f1), .string (⟨#[]⟩ : ByteArray), .string (⟨#[]⟩ : ByteArray)]) ?_ 2 _ rfl; (with_reducible repeat (first | apply lN_ | apply lD_ | apply lA_)); refine blk_put (cs := #[.int .i64 ((rd_T25 l1 x16_1).f0), .int .i64 0, .string (⟨#[]⟩ : ByteArray), .string (⟨#[]⟩ : ByteArray)]) ?_ 1 _ rfl; (with_reducible repeat (first | apply lN_ | apply lD_ | apply lA_)); refine blk_put (cs := #[.int .i64 0, .int .i64 0, .string (⟨#[]⟩ : ByteArray), .string (⟨#[]⟩ : ByteArray)]) ?_ 0 _ rfl; (with_reducible repeat (first | apply lN_ | apply lD_ | apply lA_)); exact BK323.out) hb); have n3_ := Aside0.mk (below_step (bb1_ HB GE323) hb); clear HO_6; clear BK323; clear HB; have HO_6 := n0_; have HO326 := n1_; have BK323 := n2_; have HB := n3_; clear n0_ n1_ n2_ n3_; (try clear hb); (try clear hb2); (try clear hk); (try clear hi); (try clear ho0)))
        go_ret2
        exact ⟨_, by first | rfl | (simp [errW_none, errW_some] <;> rfl) | (simp [*, errW_none, errW_some] <;> rfl), by first | exact Kd.R_nil _ _ _ _ _ | exact Kd.N_nil _ _ _ _ _ | exact Kd.V_nil _ _ _ _ _ | exact Kd.Q_nil _ _ _ _ _ | exact Kd.S_nil _ _ _ _ _, bb1_ HB GE323⟩
      ·rw [if_neg c9] at H
       exact absurd H (by simp)
     ·rw [if_neg c8] at H
      exact absurd H (by simp)
    ·rw [if_neg c7] at H
     have c7b0 : decide (x16_1 < (l1.length : Int)) = false := decide_eq_false c7
     clear c7
     simp only [Option.some.injEq, Prod.mk.injEq] at H
     obtain ⟨rfl, rfl⟩ := H
     go_wp2
     go_ret2
     exact ⟨_, by first | rfl | (simp [errW_none, errW_some] <;> rfl) | (simp [*, errW_none, errW_some] <;> rfl), by (with_reducible repeat (first | apply rA_ | apply rN_ | apply rD_)); exact HO_6.out, bb_ HB⟩
 ·rw [if_neg c3] at H
  exact absurd H (by simp)

/-! ### spec_unAll: function 65 -/
def spec_unAll.l0 : Nat → List (S25) → Int → List ByteArray → List (S25) → List (S25) → Option ((List (S25)))
 | 0, _, _, _, _, _ => none
 | k + 1, x3, x4, x329000, x329001, x329002 => if x4 ≥ 0 then (if 0 ≤ x4 then (if x4 < (x329002.length : Int) then (if x3.length < 2932031007402 then (spec_unAll.l0 k (x3 ++ [(⟨(rd_T25 x329002 x4).f0, (rd_T25 x329002 x4).f1, (rd_T25 x329002 x4).f2, (rd_T25 x329002 x4).f3⟩ : S25)]) (wrap64 (x4 - 1)) x329000 x329001 x329002) else (none)) else (none)) else (none)) else (some x3)
def spec_unAll.f (k : Nat) (l0_0 : List ByteArray) (l0_1 : List (S25)) (l0_2 : List (S25)) : Option ((List (S25))) := (some (([] : List (S25)) : List (S25))).bind fun y329 => (if y329.length + l0_1.length < 2932031007402 then (spec_unAll.l0 k (y329 ++ l0_1) (wrap64 ((l0_2.length : Int) - 1)) l0_0 l0_1 l0_2) else (none))
theorem spec_unAll.mono_l : ∀ k, (∀ y0 y1 y2 y3 y4, LeO (spec_unAll.l0 k y0 y1 y2 y3 y4) (spec_unAll.l0 (k + 1) y0 y1 y2 y3 y4))
 | 0 => fun _ _ _ _ _ r h => by simp [spec_unAll.l0] at h
 | k + 1 => by
  have ih0 := spec_unAll.mono_l k
  ·intro y0 y1 y2 y3 y4
   unfold spec_unAll.l0
   repeat' first
   | (with_reducible exact ih0 _ _ _ _ _)
   | (with_reducible exact LeO.refl _)
   | (with_reducible exact LeO.none _)
   | (with_reducible refine LeO.ite ?_ ?_)
   | (with_reducible refine LeO.bind ?_ (fun _ => ?_))
   | exact ih0 _ _ _ _ _
   | exact LeO.none _
   | refine LeO.ite ?_ ?_
   | refine LeO.bind ?_ (fun _ => ?_)
theorem spec_unAll.mono : ∀ a0 a1 a2 k, LeO (spec_unAll.f k a0 a1 a2) (spec_unAll.f (k + 1) a0 a1 a2) := by
 intro a0 a1 a2 k
 have ih0 := spec_unAll.mono_l k
 unfold spec_unAll.f
 repeat' first
   | (with_reducible exact ih0 _ _ _ _ _)
   | (with_reducible exact LeO.refl _)
   | (with_reducible exact LeO.none _)
   | (with_reducible refine LeO.ite ?_ ?_)
   | (with_reducible refine LeO.bind ?_ (fun _ => ?_))
   | exact ih0 _ _ _ _ _
   | exact LeO.none _
   | refine LeO.ite ?_ ?_
   | refine LeO.bind ?_ (fun _ => ?_)
set_option maxHeartbeats 8000000 in
set_option maxRecDepth 100000 in
theorem spec_unAll.calls (k : Nat) (A0_0 : Option Addr) (c0_0 : Nat) (l0_0 : List ByteArray) (A0_1 : Option Addr) (c0_1 : Nat) (l0_1 : List (S25)) (A0_2 : Option Addr) (c0_2 : Nat) (l0_2 : List (S25)) (r : List (S25)) (w : World) (hr0_0 : Kd.C Kd.string w A0_0 l0_0.length l0_0) (hc0_0 : l0_0.length ≤ c0_0) (hr0_1 : Kd.C k25 w A0_1 l0_1.length l0_1) (hc0_1 : l0_1.length ≤ c0_1) (hr0_2 : Kd.C k25 w A0_2 l0_2.length l0_2) (hc0_2 : l0_2.length ≤ c0_2) (h : spec_unAll.f k l0_0 l0_1 l0_2 = some r) :
  Calls Try.prog 65 #[.agg #[.slice A0_0 l0_0.length c0_0, .slice A0_1 l0_1.length c0_1, .slice A0_2 l0_2.length c0_2]] w fun e w' => ∃ v0_ : Value, e = .returned (v0_) ∧ Kd.R k25 25 w' w.heap.size (fun _ => True) v0_ r ∧ Below w.heap.size w w' := by
 have hu35 := Try.underlying35
 have hu25 := Try.underlying25
 have HR0_0 := Aside0.mk hr0_0
 have HC0_0 := Aside0.mk hc0_0
 clear hr0_0 hc0_0
 have HR0_1 := Aside0.mk hr0_1
 have HC0_1 := Aside0.mk hc0_1
 clear hr0_1 hc0_1
 have HR0_2 := Aside0.mk hr0_2
 have HC0_2 := Aside0.mk hc0_2
 clear hr0_2 hc0_2
 have HB := Aside0.mk (Below.refl w.heap.size w)
 have H : ((some (([] : List (S25)) : List (S25))).bind fun y329 => (if y329.length + l0_1.length < 2932031007402 then (spec_unAll.l0 k (y329 ++ l0_1) (wrap64 ((l0_2.length : Int) - 1)) l0_0 l0_1 l0_2) else (none))) = some r := h
 clear h
 obtain ⟨y329, hy329⟩ : ∃ y_ : List (S25), y_ = (([] : List (S25))) := ⟨_, rfl⟩
 replace H : (if y329.length + l0_1.length < 2932031007402 then (spec_unAll.l0 k (y329 ++ l0_1) (wrap64 ((l0_2.length : Int) - 1)) l0_0 l0_1 l0_2) else (none)) = some r := by first | (rw [hy329]; with_reducible exact H) | (have H2_ := (Option.bind_some _ _).symm.trans H; rw [hy329]; with_reducible exact H2_) | (have H2_ := (Option.bind_some _ _).symm.trans H; with_reducible exact H2_) | with_reducible exact H | (rw [hy329]; exact H) | exact H
 have Ny329 := Aside0.mk hy329
 clear hy329
 by_cases c2 : y329.length + l0_1.length < 2932031007402
 ·rw [if_pos c2] at H
  have LMc2 := Aside0.mk c2
  clear c2
  obtain ⟨y332, hy332⟩ : ∃ y_ : List (S25), y_ = (y329 ++ l0_1) := ⟨_, rfl⟩
  replace H : (spec_unAll.l0 k y332 (wrap64 ((l0_2.length : Int) - 1)) l0_0 l0_1 l0_2) = some r := by first | (rw [hy332]; with_reducible exact H) | (have H2_ := (Option.bind_some _ _).symm.trans H; rw [hy332]; with_reducible exact H2_) | (have H2_ := (Option.bind_some _ _).symm.trans H; with_reducible exact H2_) | with_reducible exact H | (rw [hy332]; exact H) | exact H
  have Ny332 := Aside0.mk hy332
  clear hy332
  have H' := Aside0.mk H
  clear H
  go_enter Try.func65, Try.ntmps65
  go_wp2_with (first | ((with_reducible refine gate_dst (N := 1) rfl ?_); refine box_event ?hg (N := 1) ?hd (cs := #[.slice A0_0 l0_0.length c0_0, .slice A0_1 l0_1.length c0_1, .slice A0_2 l0_2.length c0_2]) (t := 35) ?hr ?_; (case hd => rfl); (case hg => rfl); (case hr => first | (go_simp; done) | (go_simp; rfl)); intro gb328 hg w3 hbox hb; have n0_ := Aside0.mk (bt_ HB hb); have n1_ := Aside0.mk (hbox); have n2_ := gz_ hg HB; have n3_ := gz_ hg HB; clear HB; have HB := n0_; have BK328 := n1_; have GW328 := n2_; have GE328 := n3_; clear n0_ n1_ n2_ n3_; clear hb hbox hg) | ((with_reducible refine gate_dst (N := 5) rfl ?_); refine Kd.R_lit k25 _ 25 ?hg (N := 5) ?hd (xs := ([] : List (S25))) (inner := []) (ok := fun _ => True) (okp := fun _ => True) ?hr ?hp (fun _ hk => hk) trivial (Below.refl _ _) (Nat.le_refl _) (by simp) ?_; (case hd => rfl); (case hg => rfl); (case hr => first | (go_simp; done) | (go_simp; rfl)); (case hp => exact (Reps.none _ _)); intro v330 w4 ho5 hb hg_ hnew_; clear hg_ hnew_; (first | rw [← Ny329.out] at ho5 | (simp only [Int.reduceToNat] at ho5; rw [← Ny329.out] at ho5)); have n0_ := Aside0.mk (Kd.R_lower ho5 (below_size (bb1_ HB GE328))); have n1_ := Aside0.mk (lb_ BK328 hb); have n2_ := Aside0.mk (below_step (bb1_ HB GE328) hb); clear BK328; clear HB; have HO331 := n0_; have BK328 := n1_; have HB := n2_; clear n0_ n1_ n2_; clear hb ho5; have hcz6_0 := cz0_ BK328; have hcz6_1 := cz1_ BK328; have hcz6_2 := cz2_ BK328; have hfz6_0 := fz_ BK328 0; have hfz6_1 := fz_ BK328 1; have hfz6_2 := fz_ BK328 2) | ((with_reducible refine gate_builtin (b := .append) (xs := #[.tmp 5, .tmp 7]) rfl ?_); at_builtin; refine Kd.R_append_rows k25 (w0 := w) w.heap.size rfl (.tmp 5) (.tmp 7) 33 25 (.agg #[(.int .i64 0), (.int .i64 0), (.string ⟨#[]⟩), (.string ⟨#[]⟩)]) 48 rfl Try.underlying33 info25 rfl (by decide) (by omega) v330 y329 l0_1 _ _ _ (fun _ => True) (fun _ => False) rfl rfl ?aO ?aR (fun _ _ h => h) (fun _ h => h.elim) ?aF ?aB ?aS ?aL ?_; (case aR => exact cb_ HR0_1 HB); (case aB => exact (bb1_ HB GE328)); (case aF => exact (fun _ _ => trivial)); (case aO => exact (ra_ HO331)); (case aS => exact (below_size (bb1_ HB GE328))); (case aL => have := LMc2.out; omega); intro v333 w7 ho hb hg hat; rw [← Ny332.out] at ho; have n0_ := Aside0.mk (blk_grown (g := gb328) (o := .cells #[.slice A0_0 l0_0.length c0_0, .slice A0_1 l0_1.length c0_1, .slice A0_2 l0_2.length c0_2] 35 (0, 0)) (la_ BK328) hg (Kd.R_ne HO331.out BK328.out (by decide))); have n1_ := Aside0.mk (hb); have n2_ := Aside0.mk (ho); clear BK328; clear HB; clear HO331; have BK328 := n0_; have HB := n1_; have HO334 := n2_; clear n0_ n1_ n2_; clear ho hb hg hat; have hcz8_0 := cz0_ BK328; have hcz8_1 := cz1_ BK328; have hcz8_2 := cz2_ BK328; have hfz8_0 := fz_ BK328 0; have hfz8_1 := fz_ BK328 1; have hfz8_2 := fz_ BK328 2))
  go_loopg [3, 4] k (fun kq v3 v4 w' => ∃ (x3_1 : List (S25)) (x4_1 : Int), v4 = .int .i64 x4_1 ∧ Aside0 (spec_unAll.l0 kq x3_1 x4_1 l0_0 l0_1 l0_2 = some r) ∧ Aside0 (kq ≤ k) ∧ Aside0 (Kd.R k25 25 w' w.heap.size (fun _ => True) v3 x3_1) ∧ Aside0 (w'.heap[gb328]? = some (.cells #[(.slice A0_0 l0_0.length c0_0), (.slice A0_1 l0_1.length c0_1), (.slice A0_2 l0_2.length c0_2)] 35 (0, 0))) ∧ Aside0 (Below w.heap.size w w'))
  case atStart => exact ⟨(y332), (wrap64 ((l0_2.length : Int) - 1)), (by first | rfl | (simp; done) | (simp [*]; done)), H', ⟨Nat.le_refl _⟩, ⟨by (with_reducible repeat (first | apply rA_ | apply rN_ | apply rD_)); exact HO334.out⟩, ⟨by (with_reducible repeat (first | apply lN_ | apply lD_ | apply lA_)); exact BK328.out⟩, ⟨bb1_ HB GE328⟩⟩
  case round =>
   clear H'
   try clear c2
   try clear p2
   try clear c6
   try clear p6
   try clear hcz6_0
   try clear hcz6_1
   try clear hcz6_2
   try clear hcz8_0
   try clear hcz8_1
   try clear hcz8_2
   try clear hfz6_0
   try clear hfz6_1
   try clear hfz6_2
   try clear hfz8_0
   try clear hfz8_1
   try clear hfz8_2
   obtain ⟨x3_1, x4_1, rfl, HA, HK1, HO_3, BK328, HB⟩ := hrel
   cases gk with
   | zero => exact absurd HA.out (by simp [spec_unAll.l0])
   | succ k1 =>
    have H := HA.out
    clear HA
    simp only [spec_unAll.l0] at H
    by_cases c9 : x4_1 ≥ 0
    ·rw [if_pos c9] at H
     have c9b0 : decide (0 ≤ x4_1) = true := decide_eq_true c9
     clear c9
     by_cases c10 : 0 ≤ x4_1
     ·rw [if_pos c10] at H
      have c10b0 : decide (0 ≤ x4_1) = true := decide_eq_true c10
      clear c10
      by_cases c11 : x4_1 < (l0_2.length : Int)
      ·rw [if_pos c11] at H
       have c11b0 : decide (x4_1 < (l0_2.length : Int)) = true := decide_eq_true c11
       clear c11
       by_cases c12 : x3_1.length < 2932031007402
       ·rw [if_pos c12] at H
        have LMc12 := Aside0.mk c12
        clear c12
        obtain ⟨y336, hy336⟩ : ∃ y_ : List (S25), y_ = (x3_1 ++ [(⟨(rd_T25 l0_2 x4_1).f0, (rd_T25 l0_2 x4_1).f1, (rd_T25 l0_2 x4_1).f2, (rd_T25 l0_2 x4_1).f3⟩ : S25)]) := ⟨_, rfl⟩
        replace H : (spec_unAll.l0 k1 y336 (wrap64 (x4_1 - 1)) l0_0 l0_1 l0_2) = some r := by first | (rw [hy336]; with_reducible exact H) | (have H2_ := (Option.bind_some _ _).symm.trans H; rw [hy336]; with_reducible exact H2_) | (have H2_ := (Option.bind_some _ _).symm.trans H; with_reducible exact H2_) | with_reducible exact H | (rw [hy336]; exact H) | exact H
        have Ny336 := Aside0.mk hy336
        clear hy336
        have H' := Aside0.mk H
        clear H
        have hcz13_0 := cz0_ BK328
        have hcz13_1 := cz1_ BK328
        have hcz13_2 := cz2_ BK328
        have hfz13_0 := fz_ BK328 0
        have hfz13_1 := fz_ BK328 1
        have hfz13_2 := fz_ BK328 2
        have p335 : 0 ≤ (x4_1 : Int) := of_decide_eq_true as_
        have q335 : x4_1 < (l0_2.length : Int) := of_decide_eq_true as_
        obtain ⟨ad335, e335, hx335_0, hx335_1, hx335_2, hx335_3⟩ := at_T25 HR0_2.out x4_1 p335 q335
        cases e335
        replace hx335_0 := hc_ HB hx335_0
        replace hx335_1 := hc_ HB hx335_1
        replace hx335_2 := hc_ HB hx335_2
        replace hx335_3 := hc_ HB hx335_3
        replace p335 := eq_true p335
        replace q335 := eq_true q335
        go_wp2_with (first | ((with_reducible refine gate_builtin (b := .append) (xs := #[.tmp 17, .tmp 23]) rfl ?_); at_builtin; refine Kd.R_append k25 (w0 := w) w.heap.size rfl (.tmp 17) (.tmp 23) 33 25 (.agg #[(.int .i64 0), (.int .i64 0), (.string ⟨#[]⟩), (.string ⟨#[]⟩)]) 48 rfl Try.underlying33 info25 rfl (by decide) (by omega) u3 x3_1 (⟨(rd_T25 l0_2 x4_1).f0, (rd_T25 l0_2 x4_1).f1, (rd_T25 l0_2 x4_1).f2, (rd_T25 l0_2 x4_1).f3⟩ : S25) [.int .i64 ((rd_T25 l0_2 x4_1).f0), .int .i64 ((rd_T25 l0_2 x4_1).f1), .string ((rd_T25 l0_2 x4_1).f2), .string ((rd_T25 l0_2 x4_1).f3)] (fun _ => True) (fun _ => False) rfl rfl ?aP (fun _ hk => hk.elim) ?aF ?aO ?aB ?aS ?aL ?_; (case aP => exact k25_mkM _ _ _ (⟨(rd_T25 l0_2 x4_1).f0, (rd_T25 l0_2 x4_1).f1, (rd_T25 l0_2 x4_1).f2, (rd_T25 l0_2 x4_1).f3⟩ : S25)); (case aB => exact (bb1_ HB GE328)); (case aF => exact (fun _ _ => trivial)); (case aO => exact (ra_ HO_3)); (case aS => exact (below_size (bb1_ HB GE328))); (case aL => have := LMc12.out; omega); intro v337 w14 ho hb hg hat; rw [← Ny336.out] at ho; have n0_ := Aside0.mk (blk_grown (g := gb328) (o := .cells #[.slice A0_0 l0_0.length c0_0, .slice A0_1 l0_1.length c0_1, .slice (some ad335) l0_2.length c0_2] 35 (0, 0)) (la_ BK328) hg (Kd.R_ne HO_3.out BK328.out (by decide))); have n1_ := Aside0.mk (hb); have n2_ := Aside0.mk (ho); clear BK328; clear HB; clear HO_3; have BK328 := n0_; have HB := n1_; have HO338 := n2_; clear n0_ n1_ n2_; clear ho hb hg hat))
        go_roundg k1
        case measure => have := HK1.out; omega
        case rel => exact ⟨(y336), (wrap64 (x4_1 - 1)), (by first | rfl | (simp; done) | (simp [*]; done)), H', ⟨by have := HK1.out; omega⟩, ⟨by (with_reducible repeat (first | apply rA_ | apply rN_ | apply rD_)); exact HO338.out⟩, ⟨by (with_reducible repeat (first | apply lN_ | apply lD_ | apply lA_)); exact BK328.out⟩, ⟨bb1_ HB GE328⟩⟩
       ·rw [if_neg c12] at H
        exact absurd H (by simp)
      ·rw [if_neg c11] at H
       exact absurd H (by simp)
     ·rw [if_neg c10] at H
      exact absurd H (by simp)
    ·rw [if_neg c9] at H
     have c9b0 : decide (0 ≤ x4_1) = false := decide_eq_false c9
     clear c9
     obtain rfl := Option.some.inj H
     go_wp2
     go_ret
     exact ⟨_, by first | rfl | (simp [errW_none, errW_some] <;> rfl) | (simp [*, errW_none, errW_some] <;> rfl), by (with_reducible repeat (first | apply rA_ | apply rN_ | apply rD_)); exact HO_3.out, bb1_ HB GE328⟩
 ·rw [if_neg c2] at H
  exact absurd H (by simp)

/-! ### spec_unGood: function 59 -/
def spec_unGood.j0 : Nat → Bool → List ByteArray → List (S25) → List (S25) → Option (Bool)
 | 0, _, _, _, _ => none
 | k + 1, x18, x340000, x340001, x340002 => if x18 = true then (some false) else ((spec_unAll.f k x340000 x340001 x340002).bind fun t341 => ((spec_unAfter.f k x340000 t341).bind fun bt344 => (some bt344.2)))
def spec_unGood.f (k : Nat) (l0_0 : List ByteArray) (l0_1 : List (S25)) (l0_2 : List (S25)) : Option (Bool) := (spec_unItems.f k l0_0).bind fun t340 => (if t340 = true then (spec_unGood.j0 k (decide ((wrap64 ((l0_1.length : Int) + (l0_2.length : Int))) > 30)) l0_0 l0_1 l0_2) else (spec_unGood.j0 k true l0_0 l0_1 l0_2))
theorem spec_unGood.mono_l : ∀ k, (∀ y0 y1 y2 y3, LeO (spec_unGood.j0 k y0 y1 y2 y3) (spec_unGood.j0 (k + 1) y0 y1 y2 y3))
 | 0 => fun _ _ _ _ r h => by simp [spec_unGood.j0] at h
 | k + 1 => by
  have ih0 := spec_unGood.mono_l k
  ·intro y0 y1 y2 y3
   unfold spec_unGood.j0
   repeat' first
   | (with_reducible exact ih0 _ _ _ _)
   | (with_reducible exact spec_unAfter.mono _ _ _)
   | (with_reducible exact spec_unAll.mono _ _ _ _)
   | (with_reducible exact spec_unItems.mono _ _)
   | (with_reducible exact LeO.refl _)
   | (with_reducible exact LeO.none _)
   | (with_reducible refine LeO.ite ?_ ?_)
   | (with_reducible refine LeO.bind ?_ (fun _ => ?_))
   | exact ih0 _ _ _ _
   | exact LeO.none _
   | refine LeO.ite ?_ ?_
   | refine LeO.bind ?_ (fun _ => ?_)
theorem spec_unGood.mono : ∀ a0 a1 a2 k, LeO (spec_unGood.f k a0 a1 a2) (spec_unGood.f (k + 1) a0 a1 a2) := by
 intro a0 a1 a2 k
 have ih0 := spec_unGood.mono_l k
 unfold spec_unGood.f
 repeat' first
   | (with_reducible exact ih0 _ _ _ _)
   | (with_reducible exact spec_unAfter.mono _ _ _)
   | (with_reducible exact spec_unAll.mono _ _ _ _)
   | (with_reducible exact spec_unItems.mono _ _)
   | (with_reducible exact LeO.refl _)
   | (with_reducible exact LeO.none _)
   | (with_reducible refine LeO.ite ?_ ?_)
   | (with_reducible refine LeO.bind ?_ (fun _ => ?_))
   | exact ih0 _ _ _ _
   | exact LeO.none _
   | refine LeO.ite ?_ ?_
   | refine LeO.bind ?_ (fun _ => ?_)
def spec_unGood.T3 : Bool × List (List Nat × List Nat) := (true, [([], []), ([0], [0]), ([], []), ([2], [2]), ([1, 3, 3], [1, 3]), ([4], [4]), ([5], [5]), ([5], [5]), ([6, 4, 0, 1, 2, 3, 4, 5, 6], [6]), ([7, 8, 0, 1, 2, 3, 4, 5, 6, 7, 8], [7])])
def spec_unGood.B3 : List Nat := [0, 1, 0, 4, 15, 31, 63, 63, 127, 511]
theorem spec_unGood.tab3 : rtab .any (opsOf Try.f59 3) = spec_unGood.T3 := by kernel_rfl
theorem spec_unGood.bits3 : waitsOk spec_unGood.T3.2 spec_unGood.B3 = true := by kernel_rfl
set_option maxHeartbeats 8000000 in
set_option maxRecDepth 100000 in
theorem spec_unGood.calls (k : Nat) (A0_0 : Option Addr) (c0_0 : Nat) (l0_0 : List ByteArray) (A0_1 : Option Addr) (c0_1 : Nat) (l0_1 : List (S25)) (A0_2 : Option Addr) (c0_2 : Nat) (l0_2 : List (S25)) (r : Bool) (w : World) (hr0_0 : Kd.C Kd.string w A0_0 l0_0.length l0_0) (hc0_0 : l0_0.length ≤ c0_0) (hr0_1 : Kd.C k25 w A0_1 l0_1.length l0_1) (hc0_1 : l0_1.length ≤ c0_1) (hr0_2 : Kd.C k25 w A0_2 l0_2.length l0_2) (hc0_2 : l0_2.length ≤ c0_2) (h : spec_unGood.f k l0_0 l0_1 l0_2 = some r) :
  Calls Try.prog 59 #[.agg #[.slice A0_0 l0_0.length c0_0, .slice A0_1 l0_1.length c0_1, .slice A0_2 l0_2.length c0_2]] w fun e w' => e = .returned (.bool r) ∧ Below w.heap.size w w' := by
 have hu35 := Try.underlying35
 have HR0_0 := Aside0.mk hr0_0
 have HC0_0 := Aside0.mk hc0_0
 clear hr0_0 hc0_0
 have HR0_1 := Aside0.mk hr0_1
 have HC0_1 := Aside0.mk hc0_1
 clear hr0_1 hc0_1
 have HR0_2 := Aside0.mk hr0_2
 have HC0_2 := Aside0.mk hc0_2
 clear hr0_2 hc0_2
 have HB := Aside0.mk (Below.refl w.heap.size w)
 have H : ((spec_unItems.f k l0_0).bind fun t340 => (if t340 = true then (spec_unGood.j0 k (decide ((wrap64 ((l0_1.length : Int) + (l0_2.length : Int))) > 30)) l0_0 l0_1 l0_2) else (spec_unGood.j0 k true l0_0 l0_1 l0_2))) = some r := h
 clear h
 have HC2 := Aside0.mk H
 clear H
 go_enter Try.func59, Try.ntmps59
 go_upto_region 1 with (first | ((with_reducible refine gate_dst (N := 1) rfl ?_); (try (refine gate_guard (by rfl) ?_; dsimp only)); refine box_event ?hg (N := 1) ?hd (cs := #[.slice A0_0 l0_0.length c0_0, .slice A0_1 l0_1.length c0_1, .slice A0_2 l0_2.length c0_2]) (t := 35) ?hr ?_; (case hd => rfl); (case hg => rfl); (case hr => first | (go_simp; done) | (go_simp; rfl)); intro gb339 hg w3 hbox hb; have n0_ := Aside0.mk (bt_ HB hb); have n1_ := Aside0.mk (hbox); have n2_ := gz_ hg HB; have n3_ := gz_ hg HB; clear HB; have HB := n0_; have BK339 := n1_; have GW339 := n2_; have GE339 := n3_; clear n0_ n1_ n2_ n3_; clear hb hbox hg))
 (try simp only [Act.put, sA_, sB_, sC_])
 go_cut [18] (fun v18 wc => ∃ (kq : Nat) (x18_1 : Bool), v18 = .bool x18_1 ∧ Aside0 (spec_unGood.j0 kq x18_1 l0_0 l0_1 l0_2 = some r) ∧ Aside0 (kq ≤ k) ∧ Aside0 (wc.heap[gb339]? = some (.cells #[(.slice A0_0 l0_0.length c0_0), (.slice A0_1 l0_1.length c0_1), (.slice A0_2 l0_2.length c0_2)] 35 (0, 0))) ∧ Aside0 (Below w.heap.size w wc))
 case first =>
  have H := HC2.out
  clear HC2
  replace H := Option.bind_eq_some_iff.mp H
  obtain ⟨t340, A40, H⟩ := H
  try dsimp only at H
  have A4 := Aside0.mk A40
  clear A40
  by_cases c5 : t340 = true
  ·subst c5
   have H1 : (spec_unGood.j0 k (decide ((wrap64 ((l0_1.length : Int) + (l0_2.length : Int))) > 30)) l0_0 l0_1 l0_2) = some r := by rw [if_pos rfl] at H; exact H
   clear H
   have H := H1
   clear H1
   have H' := Aside0.mk H
   clear H
   have hcz6_0 := cz0_ BK339
   have hcz6_1 := cz1_ BK339
   have hcz6_2 := cz2_ BK339
   have hfz6_0 := fz_ BK339 0
   have hfz6_1 := fz_ BK339 1
   have hfz6_2 := fz_ BK339 2
   go_wp2_with (first | ((with_reducible refine gate_callee (f := 51) rfl ?_); refine goesL_ (some 7) rfl rfl Try.func51 (by kernel_rfl) rfl #[.slice A0_0 l0_0.length c0_0] rfl args_ ?_; (with_reducible refine (spec_unItems.calls k _ _ l0_0 true _ ?side1 ?side2 A4.out).mono ?_); (case side1 => exact cb_ HR0_0 HB); (case side2 => exact HC0_0.out); rintro e w' ⟨rfl, ⟨nd, rfl⟩⟩; refine ⟨_, rfl, ?_⟩))
   go_meet
   case rel => exact ⟨_, (decide ((wrap64 ((l0_1.length : Int) + (l0_2.length : Int))) > 30)), (by first | rfl | (simp; done) | (simp [*]; done)), H', ⟨by first | omega | exact Nat.le_refl _⟩, ⟨by (with_reducible repeat (first | apply lN_ | apply lD_ | apply lA_)); exact BK339.out⟩, ⟨bb1_ HB GE339⟩⟩
  ·replace c5 := Bool.eq_false_iff.mpr c5
   subst c5
   have H1 : (spec_unGood.j0 k true l0_0 l0_1 l0_2) = some r := by rw [if_neg (show ¬ (false = true) by decide)] at H; exact H
   clear H
   have H := H1
   clear H1
   have H' := Aside0.mk H
   clear H
   have hcz7_0 := cz0_ BK339
   have hcz7_1 := cz1_ BK339
   have hcz7_2 := cz2_ BK339
   have hfz7_0 := fz_ BK339 0
   have hfz7_1 := fz_ BK339 1
   have hfz7_2 := fz_ BK339 2
   go_wp2_with (first | ((with_reducible refine gate_callee (f := 51) rfl ?_); refine goesL_ (some 7) rfl rfl Try.func51 (by kernel_rfl) rfl #[.slice A0_0 l0_0.length c0_0] rfl args_ ?_; (with_reducible refine (spec_unItems.calls k _ _ l0_0 false _ ?side1 ?side2 A4.out).mono ?_); (case side1 => exact cb_ HR0_0 HB); (case side2 => exact HC0_0.out); rintro e w' ⟨rfl, ⟨nd, rfl⟩⟩; refine ⟨_, rfl, ?_⟩))
   go_meet
   case rel => exact ⟨_, (true), (by first | rfl | (simp; done) | (simp [*]; done)), H', ⟨by first | omega | exact Nat.le_refl _⟩, ⟨by (with_reducible repeat (first | apply lN_ | apply lD_ | apply lA_)); exact BK339.out⟩, ⟨bb1_ HB GE339⟩⟩
 case rest =>
  clear HC2
  try clear p2
  try clear c5
  try clear p6
  try clear hcz6_0
  try clear hcz6_1
  try clear hcz6_2
  try clear hcz7_0
  try clear hcz7_1
  try clear hcz7_2
  try clear hfz6_0
  try clear hfz6_1
  try clear hfz6_2
  try clear hfz7_0
  try clear hfz7_1
  try clear hfz7_2
  obtain ⟨kq, x18_1, rfl, HA, HJ1, BK339, HB⟩ := hcut
  cases kq with
  | zero => exact absurd HA.out (by simp [spec_unGood.j0])
  | succ kj1 =>
   have H := HA.out
   clear HA
   simp only [spec_unGood.j0] at H
   by_cases c8 : x18_1 = true
   ·subst c8
    have H1 : (some false) = some r := by rw [if_pos rfl] at H; exact H
    clear H
    have H := H1
    clear H1
    obtain rfl := Option.some.inj H
    go_wp2
    go_ret
    exact ⟨by first | rfl | (simp [errW_none, errW_some] <;> rfl) | (simp [*, errW_none, errW_some] <;> rfl), bb1_ HB GE339⟩
   ·replace c8 := Bool.eq_false_iff.mpr c8
    subst c8
    have H1 : ((spec_unAll.f kj1 l0_0 l0_1 l0_2).bind fun t341 => ((spec_unAfter.f kj1 l0_0 t341).bind fun bt344 => (some bt344.2))) = some r := by rw [if_neg (show ¬ (false = true) by decide)] at H; exact H
    clear H
    have H := H1
    clear H1
    replace H := Option.bind_eq_some_iff.mp H
    obtain ⟨t341, A90, H⟩ := H
    try dsimp only at H
    have A9 := Aside0.mk A90
    clear A90
    replace H := Option.bind_eq_some_iff.mp H
    obtain ⟨⟨t344, t345⟩, A100, H⟩ := H
    try dsimp only at H
    have A10 := Aside0.mk A100
    clear A100
    obtain rfl := Option.some.inj H
    try go_wp2
    have n0_ := Aside0.mk (blk_drew BK339.out)
    have n1_ := Aside0.mk (below_drew1 HB.out)
    clear BK339
    clear HB
    have BK339 := n0_
    have HB := n1_
    clear n0_ n1_
    refine start_ (n := 10) (S := fun w' => w'.cell? ⟨gb339, 0, none⟩ = some (.slice A0_0 l0_0.length c0_0) ∧ w'.cell? ⟨gb339, 1, none⟩ = some (.slice A0_1 l0_1.length c0_1) ∧ w'.cell? ⟨gb339, 2, none⟩ = some (.slice A0_2 l0_2.length c0_2)) (ds := []) #[false, false, false, false, false, false, false, false, false, false] (by kernel_rfl) rfl rfl ⟨(blk_cell BK339.out 0).trans rfl, (blk_cell BK339.out 1).trans rfl, (blk_cell BK339.out 2).trans rfl⟩ (fun hHeld => ?_); refine with_tabW spec_unGood.tab3 spec_unGood.bits3 (fun HT_ HW_ => ?_)
    generalize wc.drew = w11 at BK339 HB hHeld ⊢
    refine pu_ (i := 0) (N := some 20) (v := ?_) (a' := ?_) #[true, false, false, false, false, false, false, false, false, false] rfl rfl (Or.inl ⟨by rfl, ?_⟩) ?_ ?_
    rotate_left
    ·intro w'
     go_simp
     with_reducible rfl
    rotate_left
    ·simp only [Act.put, sA_, sB_, sC_, i64_w, i32_w]
     rfl
    refine take_ (i := 1) (N := some 21) (v := ?_) (a' := ?_) #[true, true, false, false, false, false, false, false, false, false] rfl rfl (take_ofW HT_.out HW_.out (by kernel_rfl)) (fun _ _ _ h => h) (Or.inl ⟨by rfl, ?_⟩) hHeld ?_ ?_
    rotate_left
    ·rintro w' ⟨s0, s1, s2⟩
     go_simp
     with_reducible rfl
    rotate_left
    ·simp only [Act.put, sA_, sB_, sC_, i64_w, i32_w]
     rfl
    refine take_ (i := 2) (N := some 22) (v := ?_) (a' := ?_) #[true, true, true, false, false, false, false, false, false, false] rfl rfl (take_ofW HT_.out HW_.out (by kernel_rfl)) (fun _ _ _ h => h) (Or.inl ⟨by rfl, ?_⟩) hHeld ?_ ?_
    rotate_left
    ·rintro w' ⟨s0, s1, s2⟩
     go_simp
     with_reducible rfl
    rotate_left
    ·simp only [Act.put, sA_, sB_, sC_, i64_w, i32_w]
     rfl
    refine one_ (i := 3) (N := some 23) #[true, true, true, true, false, false, false, false, false, false] rfl rfl (one_of HT_.out (by kernel_rfl)) (by decide) (fun K hK => ?_)
    refine goes_ Try.func65 (by kernel_rfl) rfl #[.agg #[.slice A0_0 l0_0.length c0_0, .slice A0_1 l0_1.length c0_1, .slice A0_2 l0_2.length c0_2]] (by rfl) rfl rfl args_ ?_
    with_reducible refine (spec_unAll.calls kj1 _ _ l0_0 _ _ l0_1 _ _ l0_2 t341 _ ?side1 ?side2 ?side3 ?side4 ?side5 ?side6 A9.out).mono ?_
    (case side1 => exact cb_ HR0_0 HB)
    (case side2 => exact HC0_0.out)
    (case side3 => exact cb_ HR0_1 HB)
    (case side4 => exact HC0_1.out)
    (case side5 => exact cb_ HR0_2 HB)
    (case side6 => exact HC0_2.out)
    rintro e w12 ⟨v342, rfl, ho0, hb⟩
    refine ⟨_, rfl, ?_⟩
    have n0_ := Aside0.mk (Kd.R_lower ho0 (below_size (bb1_ HB GE339)))
    have n1_ := Aside0.mk (lb_ BK339 hb)
    have n2_ := Aside0.mk (below_step (bb1_ HB GE339) hb)
    clear BK339
    clear HB
    have HO343 := n0_
    have BK339 := n1_
    have HB := n2_
    clear n0_ n1_ n2_
    (try clear hb)
    (try clear hb2)
    (try clear hk)
    (try clear hi)
    (try clear ho0)
    obtain ⟨Ao13, co13, eo13⟩ := Kd.R_slice HO343.out
    (first | subst eo13 | (injection eo13 with f1_ f2_ f3_; have f4_ := f1_.symm; have f5_ := f3_.symm; clear f1_ f2_ f3_; subst f4_; subst f5_))
    refine hK.out _ _ ⟨(blk_cell BK339.out 0).trans rfl, (blk_cell BK339.out 1).trans rfl, (blk_cell BK339.out 2).trans rfl⟩ (fun hHeld => ?_)
    clear hK K
    refine norm_ (a' := ?_) ?_ ?_
    rotate_left
    ·show Act.put _ (some 23) _ = _
     simp only [Act.put, sA_, sB_, sC_, i64_w, i32_w]
     rfl
    refine one_ (i := 4) (N := some 24) #[true, true, true, true, true, false, false, false, false, false] rfl rfl (one_of HT_.out (by kernel_rfl)) (by decide) (fun K hK => ?_)
    refine goes_ Try.func64 (by kernel_rfl) rfl #[.slice A0_0 l0_0.length c0_0, .slice Ao13 t341.length co13] (by rfl) rfl rfl args_ ?_
    with_reducible refine (spec_unAfter.calls kj1 _ _ l0_0 _ _ t341 t344 t345 _ ?side1 ?side2 ?side3 ?side4 A10.out).mono ?_
    (case side1 => exact cb_ HR0_0 HB)
    (case side2 => exact HC0_0.out)
    (case side3 => exact cr_ HO343)
    (case side4 => exact (Kd.R_reads' HO343.out).2.1)
    rintro e w14 ⟨v346, rfl, ho0, hb⟩
    refine ⟨_, rfl, ?_⟩
    have n0_ := Aside0.mk (Kd.R_below (ra_ HO343) hb)
    have n1_ := Aside0.mk (Kd.R_lower ho0 (below_size (bb1_ HB GE339)))
    have n2_ := Aside0.mk (lb_ BK339 hb)
    have n3_ := Aside0.mk (below_step (bb1_ HB GE339) hb)
    clear HO343
    clear BK339
    clear HB
    have HO343 := n0_
    have HO347 := n1_
    have BK339 := n2_
    have HB := n3_
    clear n0_ n1_ n2_ n3_
    (try clear hb)
    (try clear hb2)
    (try clear hk)
    (try clear hi)
    (try clear ho0)
    refine hK.out _ _ ⟨(blk_cell BK339.out 0).trans rfl, (blk_cell BK339.out 1).trans rfl, (blk_cell BK339.out 2).trans rfl⟩ (fun hHeld => ?_)
    clear hK K
    refine norm_ (a' := ?_) ?_ ?_
    rotate_left
    ·show Act.put _ (some 24) _ = _
     simp only [Act.put, sA_, sB_, sC_, i64_w, i32_w]
     rfl
    refine pu_ (i := 5) (N := some 19) (v := ?_) (a' := ?_) #[true, true, true, true, true, true, false, false, false, false] rfl rfl (Or.inl ⟨by rfl, ?_⟩) ?_ ?_
    rotate_left
    ·intro w'
     go_simp
     with_reducible rfl
    rotate_left
    ·simp only [Act.put, sA_, sB_, sC_, i64_w, i32_w]
     rfl
    refine pu_ (i := 6) (N := some 25) (v := ?_) (a' := ?_) #[true, true, true, true, true, true, true, false, false, false] rfl rfl (Or.inl ⟨by rfl, ?_⟩) ?_ ?_
    rotate_left
    ·intro w'
     go_simp
     with_reducible rfl
    rotate_left
    ·simp only [Act.put, sA_, sB_, sC_, i64_w, i32_w]
     rfl
    refine pu_ (i := 7) (N := some 26) (v := ?_) (a' := ?_) #[true, true, true, true, true, true, true, true, false, false] rfl rfl (Or.inl ⟨by rfl, ?_⟩) ?_ ?_
    rotate_left
    ·intro w'
     go_simp
     with_reducible rfl
    rotate_left
    ·simp only [Act.put, sA_, sB_, sC_, i64_w, i32_w]
     rfl
    refine pu_ (i := 8) (N := some 3) (v := ?_) (a' := ?_) #[true, true, true, true, true, true, true, true, true, false] rfl rfl (Or.inl ⟨by rfl, ?_⟩) ?_ ?_
    rotate_left
    ·intro w'
     go_simp
     with_reducible rfl
    rotate_left
    ·simp only [Act.put, sA_, sB_, sC_, i64_w, i32_w]
     rfl
    refine pu_ (i := 9) (N := some 4) (v := ?_) (a' := ?_) #[true, true, true, true, true, true, true, true, true, true] rfl rfl (Or.inl ⟨by rfl, ?_⟩) ?_ ?_
    rotate_left
    ·intro w'
     go_simp
     with_reducible rfl
    rotate_left
    ·simp only [Act.put, sA_, sB_, sC_, i64_w, i32_w]
     rfl
    refine done_ (done_of HT_.out (by kernel_rfl)) ?_
    try go_wp2
    go_ret
    exact ⟨by first | rfl | (simp [errW_none, errW_some] <;> rfl) | (simp [*, errW_none, errW_some] <;> rfl), bb1_ HB GE339⟩

/-! ### laws_toDeskEditS: function 60 -/
def laws_toDeskEditS.l0 : Nat → List (S23) → List (S25) → Int → Option ((List (S25)))
 | 0, _, _, _ => none
 | k + 1, x0, x3, x4 => if x4 < (x0.length : Int) then (if 0 ≤ x4 then ((laws_toDeskEdit.f ((rd_T23 x0 x4).f0) ((rd_T23 x0 x4).f1) ((rd_T23 x0 x4).f2) ((rd_T23 x0 x4).f3)).bind fun bt354 => (if x4 < (x3.length : Int) then (laws_toDeskEditS.l0 k x0 (x3.set (x4 : Int).toNat (⟨bt354.1, bt354.2.1, bt354.2.2.1, bt354.2.2.2⟩ : S25)) (wrap64 (x4 + 1))) else (none))) else (none)) else (some x3)
def laws_toDeskEditS.f (k : Nat) (l0 : List (S23)) : Option ((List (S25))) := if 0 ≤ (l0.length : Int) then (if ((l0.length : Int) : Int).toNat ≤ 5864062014805 then (laws_toDeskEditS.l0 k l0 (List.replicate ((l0.length : Int) : Int).toNat z25) 0) else (none)) else (none)
theorem laws_toDeskEditS.mono_l : ∀ k, (∀ y0 y1 y2, LeO (laws_toDeskEditS.l0 k y0 y1 y2) (laws_toDeskEditS.l0 (k + 1) y0 y1 y2))
 | 0 => fun _ _ _ r h => by simp [laws_toDeskEditS.l0] at h
 | k + 1 => by
  have ih0 := laws_toDeskEditS.mono_l k
  ·intro y0 y1 y2
   unfold laws_toDeskEditS.l0
   repeat' first
   | (with_reducible exact ih0 _ _ _)
   | (with_reducible exact LeO.refl _)
   | (with_reducible exact LeO.none _)
   | (with_reducible refine LeO.ite ?_ ?_)
   | (with_reducible refine LeO.bind ?_ (fun _ => ?_))
   | exact ih0 _ _ _
   | exact LeO.none _
   | refine LeO.ite ?_ ?_
   | refine LeO.bind ?_ (fun _ => ?_)
theorem laws_toDeskEditS.mono : ∀ a0 k, LeO (laws_toDeskEditS.f k a0) (laws_toDeskEditS.f (k + 1) a0) := by
 intro a0 k
 have ih0 := laws_toDeskEditS.mono_l k
 unfold laws_toDeskEditS.f
 repeat' first
   | (with_reducible exact ih0 _ _ _)
   | (with_reducible exact LeO.refl _)
   | (with_reducible exact LeO.none _)
   | (with_reducible refine LeO.ite ?_ ?_)
   | (with_reducible refine LeO.bind ?_ (fun _ => ?_))
   | exact ih0 _ _ _
   | exact LeO.none _
   | refine LeO.ite ?_ ?_
   | refine LeO.bind ?_ (fun _ => ?_)
set_option maxHeartbeats 8000000 in
set_option maxRecDepth 100000 in
theorem laws_toDeskEditS.calls (k : Nat) (A0 : Option Addr) (c0 : Nat) (l0 : List (S23)) (r : List (S25)) (w : World) (hr0 : Kd.C k23 w A0 l0.length l0) (hc0 : l0.length ≤ c0) (h : laws_toDeskEditS.f k l0 = some r) :
  Calls Try.prog 60 #[.slice A0 l0.length c0] w fun e w' => ∃ v0_ : Value, e = .returned (v0_) ∧ Kd.R k25 25 w' w.heap.size (fun _ => True) v0_ r ∧ Below w.heap.size w w' := by
 have hu23 := Try.underlying23
 have hu25 := Try.underlying25
 have HR0 := Aside0.mk hr0
 have HC0 := Aside0.mk hc0
 clear hr0 hc0
 have HB := Aside0.mk (Below.refl w.heap.size w)
 have H : (if 0 ≤ (l0.length : Int) then (if ((l0.length : Int) : Int).toNat ≤ 5864062014805 then (laws_toDeskEditS.l0 k l0 (List.replicate ((l0.length : Int) : Int).toNat z25) 0) else (none)) else (none)) = some r := h
 clear h
 by_cases c2 : 0 ≤ (l0.length : Int)
 ·rw [if_pos c2] at H
  have c2b0 := eq_true c2
  have c2b1 : decide (0 ≤ (l0.length : Int)) = true := decide_eq_true c2
  clear c2
  by_cases c3 : ((l0.length : Int) : Int).toNat ≤ 5864062014805
  ·rw [if_pos c3] at H
   have c3b0 := eq_true c3
   have c3b1 : decide (((l0.length : Int) : Int).toNat ≤ 5864062014805) = true := decide_eq_true c3
   clear c3
   obtain ⟨y350, hy350⟩ : ∃ y_ : List (S25), y_ = (List.replicate ((l0.length : Int) : Int).toNat z25) := ⟨_, rfl⟩
   replace H : (laws_toDeskEditS.l0 k l0 y350 0) = some r := by first | (rw [hy350]; with_reducible exact H) | (have H2_ := (Option.bind_some _ _).symm.trans H; rw [hy350]; with_reducible exact H2_) | (have H2_ := (Option.bind_some _ _).symm.trans H; with_reducible exact H2_) | with_reducible exact H | (rw [hy350]; exact H) | exact H
   have Ny350 := Aside0.mk hy350
   clear hy350
   have H' := Aside0.mk H
   clear H
   go_enter Try.func60, Try.ntmps60
   go_wp2_with (first | ((with_reducible refine gate_dst (N := 7) rfl ?_); refine Kd.R_make k25 _ 25 rfl (N := 7) rfl 33 _ _ rfl (l0.length : Int) rfl rfl Try.underlying33 (.agg #[(.int .i64 0), (.int .i64 0), (.string ⟨#[]⟩), (.string ⟨#[]⟩)]) 48 info25 rfl (by decide) (by omega) z25 (ok := fun _ => True) (okp := fun _ => True) (k25_mkM _ _ _ z25 ) (fun _ hk => hk) trivial (of_decide_eq_true as_) (Nat.le_trans (Nat.mul_le_mul_right _ (of_decide_eq_true as_ : (l0.length : Int).toNat ≤ 5864062014805)) (by omega)) (Below.refl _ _) (Nat.le_refl _) ?_; intro v351 w4 ho5 hb hg_ hnew_; clear hg_ hnew_; (first | rw [← Ny350.out] at ho5 | (simp only [Int.reduceToNat] at ho5; rw [← Ny350.out] at ho5)); have n0_ := Aside0.mk (Kd.R_lower ho5 (bz_ HB)); have n1_ := Aside0.mk (bt_ HB hb); clear HB; have HO352 := n0_; have HB := n1_; clear n0_ n1_; clear hb ho5))
   go_loopg [4] k (fun kq v4 w' => ∃ (x3_1 : List (S25)) (x4_1 : Int), v4 = .int .i64 x4_1 ∧ Aside0 (laws_toDeskEditS.l0 kq l0 x3_1 x4_1 = some r) ∧ Aside0 (kq ≤ k) ∧ Aside0 (Kd.R k25 25 w' w.heap.size (fun _ => True) v351 x3_1) ∧ Aside0 (Below w.heap.size w w'))
   case atStart => exact ⟨(y350), (0), (by first | rfl | (simp; done) | (simp [*]; done)), H', ⟨Nat.le_refl _⟩, ⟨by (with_reducible repeat (first | apply rA_ | apply rN_ | apply rD_)); exact HO352.out⟩, ⟨bb_ HB⟩⟩
   case round =>
    clear H'
    try clear c2
    try clear c2b0
    try clear c2b1
    try clear p2
    try clear c3
    try clear c3b0
    try clear c3b1
    obtain ⟨x3_1, x4_1, rfl, HA, HK1, HO_3, HB⟩ := hrel
    cases gk with
    | zero => exact absurd HA.out (by simp [laws_toDeskEditS.l0])
    | succ k1 =>
     have H := HA.out
     clear HA
     simp only [laws_toDeskEditS.l0] at H
     by_cases c6 : x4_1 < (l0.length : Int)
     ·rw [if_pos c6] at H
      have c6b0 : decide (x4_1 < (l0.length : Int)) = true := decide_eq_true c6
      clear c6
      by_cases c7 : 0 ≤ x4_1
      ·rw [if_pos c7] at H
       have c7b0 : decide (0 ≤ x4_1) = true := decide_eq_true c7
       clear c7
       replace H := Option.bind_eq_some_iff.mp H
       obtain ⟨⟨t354, t355, t356, t357⟩, A80, H⟩ := H
       try dsimp only at H
       have A8 := Aside0.mk A80
       clear A80
       by_cases c9 : x4_1 < (x3_1.length : Int)
       ·rw [if_pos c9] at H
        have c9b0 : decide (x4_1 < (x3_1.length : Int)) = true := decide_eq_true c9
        clear c9
        obtain ⟨y358, hy358⟩ : ∃ y_ : List (S25), y_ = (x3_1.set (x4_1 : Int).toNat (⟨t354, t355, t356, t357⟩ : S25)) := ⟨_, rfl⟩
        replace H : (laws_toDeskEditS.l0 k1 l0 y358 (wrap64 (x4_1 + 1))) = some r := by first | (rw [hy358]; with_reducible exact H) | (have H2_ := (Option.bind_some _ _).symm.trans H; rw [hy358]; with_reducible exact H2_) | (have H2_ := (Option.bind_some _ _).symm.trans H; with_reducible exact H2_) | with_reducible exact H | (rw [hy358]; exact H) | exact H
        have Ny358 := Aside0.mk hy358
        clear hy358
        have H' := Aside0.mk H
        clear H
        have p353 : 0 ≤ (x4_1 : Int) := of_decide_eq_true as_
        have q353 : x4_1 < (l0.length : Int) := of_decide_eq_true as_
        obtain ⟨ad353, e353, hx353_0, hx353_1, hx353_2, hx353_3⟩ := at_T23 HR0.out x4_1 p353 q353
        cases e353
        replace hx353_0 := hc_ HB hx353_0
        replace hx353_1 := hc_ HB hx353_1
        replace hx353_2 := hc_ HB hx353_2
        replace hx353_3 := hc_ HB hx353_3
        replace p353 := eq_true p353
        replace q353 := eq_true q353
        go_wp2_with (first | ((with_reducible refine gate_callee (f := 16) rfl ?_); refine goesL_ (some 20) rfl rfl Try.func16 (by kernel_rfl) rfl #[.agg #[.int .i64 ((rd_T23 l0 x4_1).f0), .int .i64 ((rd_T23 l0 x4_1).f1), .string ((rd_T23 l0 x4_1).f2), .string ((rd_T23 l0 x4_1).f3)]] rfl args_ ?_; (with_reducible refine (laws_toDeskEdit.calls ((rd_T23 l0 x4_1).f0) ((rd_T23 l0 x4_1).f1) ((rd_T23 l0 x4_1).f2) ((rd_T23 l0 x4_1).f3) t354 t355 t356 t357 _ A8.out).mono ?_); rintro e w11 ⟨rfl, hb⟩; refine ⟨_, rfl, ?_⟩; have n0_ := Aside0.mk (Kd.R_below (ra_ HO_3) hb); have n1_ := Aside0.mk (bt_ HB hb); clear HO_3; clear HB; have HO_3 := n0_; have HB := n1_; clear n0_ n1_; (try clear hb); (try clear hb2); (try clear hk); (try clear hi); have p10 : 0 ≤ (x4_1 : Int) := of_decide_eq_true as_; have q10 : (x4_1 : Int) < ((x3_1.length : Int) : Int) := of_decide_eq_true as_; obtain ⟨go10, co10, eo10, gb10, gl10, cl10, HG10⟩ := Kd.R_form HO_3.out (by omega); (first | cases eo10 | (injection eo10 with ea_ en_ ec_; (first | subst ea_ | (injection ea_ with ea_; subst ea_)); subst ec_; clear en_)); have GB10 := Aside0.mk gb10; have GG10 := Aside0.mk HG10; clear gb10 gl10 HG10; obtain ⟨ce10, hcl10, hM10, hcc10, hfr10⟩ := Kd.R_elem HO_3.out z25 (x4_1 : Int) p10 q10; obtain rfl := k25_openM hM10; have hx10_0 : w11.cell? ⟨go10, (x4_1 : Int).toNat * 4, none⟩ = some (.int .i64 ((rd_T25 x3_1 x4_1).f0)) := hcc10 0 _ rfl; have hx10_1 : w11.cell? ⟨go10, (x4_1 : Int).toNat * 4 + 1, none⟩ = some (.int .i64 ((rd_T25 x3_1 x4_1).f1)) := hcc10 1 _ rfl; have hx10_2 : w11.cell? ⟨go10, (x4_1 : Int).toNat * 4 + 2, none⟩ = some (.string ((rd_T25 x3_1 x4_1).f2)) := hcc10 2 _ rfl; have hx10_3 : w11.cell? ⟨go10, (x4_1 : Int).toNat * 4 + 3, none⟩ = some (.string ((rd_T25 x3_1 x4_1).f3)) := hcc10 3 _ rfl; have hf10_0 : w11.frozen? ⟨go10, (x4_1 : Int).toNat * 4, none⟩ = false := hfr10 0; have hf10_1 : w11.frozen? ⟨go10, (x4_1 : Int).toNat * 4 + 1, none⟩ = false := hfr10 1; have hf10_2 : w11.frozen? ⟨go10, (x4_1 : Int).toNat * 4 + 2, none⟩ = false := hfr10 2; have hf10_3 : w11.frozen? ⟨go10, (x4_1 : Int).toNat * 4 + 3, none⟩ = false := hfr10 3; clear hcl10 hcc10 hfr10 hM10; replace p10 := eq_true p10; replace q10 := eq_true q10; have HX12 := Aside0.mk (show Kd.R k25 25 w11 w.heap.size (fun _ => True) (.slice (some ⟨go10, 0, none⟩) x3_1.length co10) x3_1 from (ra_ HO_3)); obtain ⟨ce12, hcl12, hM12, hcc12, hfr12⟩ := Kd.R_elem HX12.out z25 (x4_1 : Int) (of_decide_eq_true as_) (by have h_ : (x4_1 : Int) < ((x3_1.length : Int) : Int) := of_decide_eq_true as_; first | exact h_ | (have e_ := (Kd.R_reads' HO_3.out).1; omega) | simpa using h_); obtain rfl := k25_openM hM12; have HP12 := Kd.R_seg HX12.out (x4_1 : Int) (of_decide_eq_true as_) (by have h_ : (x4_1 : Int) < ((x3_1.length : Int) : Int) := of_decide_eq_true as_; first | exact h_ | (have e_ := (Kd.R_reads' HO_3.out).1; omega) | simpa using h_) (seg := [.int .i64 t354, .int .i64 t355, .string t356, .string t357]) (j := 0) hcl12 hcc12 (show 4 ≤ 4 from by decide) (x' := (⟨t354, t355, t356, t357⟩ : S25)) (k25_mkM _ _ _ (⟨t354, t355, t356, t357⟩ : S25) ) (fun _ hk => hk); have hx12_0 := hcc12 0 _ rfl; (try simp only [show (k25).sz = 4 from rfl, Nat.mul_one, Nat.add_zero] at hx12_0); have hf12_0 := hfr12 0; (try simp only [show (k25).sz = 4 from rfl, Nat.mul_one, Nat.add_zero] at hf12_0); have hx12_1 := hcc12 1 _ rfl; (try simp only [show (k25).sz = 4 from rfl, Nat.mul_one, Nat.add_zero] at hx12_1); have hf12_1 := hfr12 1; (try simp only [show (k25).sz = 4 from rfl, Nat.mul_one, Nat.add_zero] at hf12_1); have hx12_2 := hcc12 2 _ rfl; (try simp only [show (k25).sz = 4 from rfl, Nat.mul_one, Nat.add_zero] at hx12_2); have hf12_2 := hfr12 2; (try simp only [show (k25).sz = 4 from rfl, Nat.mul_one, Nat.add_zero] at hf12_2); have hx12_3 := hcc12 3 _ rfl; (try simp only [show (k25).sz = 4 from rfl, Nat.mul_one, Nat.add_zero] at hx12_3); have hf12_3 := hfr12 3; (try simp only [show (k25).sz = 4 from rfl, Nat.mul_one, Nat.add_zero] at hf12_3); clear hcl12 hcc12 hfr12 hM12) | ((with_reducible refine gate_store (t := 25) (p := 21) rfl ?_); refine store_event (t := 25) (p := 21) (v := ?vo_w13) (w1 := ((((w11.setCell ⟨go10, (x4_1 : Int).toNat * 4, none⟩ (.int .i64 t354)).setCell ⟨go10, (x4_1 : Int).toNat * 4 + 1, none⟩ (.int .i64 t355)).setCell ⟨go10, (x4_1 : Int).toNat * 4 + 2, none⟩ (.string t356)).setCell ⟨go10, (x4_1 : Int).toNat * 4 + 3, none⟩ (.string t357))) ?hg ?ho ?hn ?hr ?_; (case ho => rfl); (case hg => rfl); (case hn => rfl); (case hr => first | (go_simp; done) | (go_simp; rfl)); intro w13 hw; have hg : w11.grownBy w13 (some go10) := (by rw [hw]; exact HP12.2); have hp_ : Kd.R k25 25 w13 w.heap.size (fun _ => True) (.slice (some ⟨go10, 0, none⟩) x3_1.length co10) y358 := (by rw [hw, Ny358.out]; exact HP12.1); clear HP12; have n0_ := Aside0.mk (hp_); have n1_ := Aside0.mk ((by rw [hw]; exact below_set (below_set (below_set (below_set (HB.out) GB10.out) GB10.out) GB10.out) GB10.out : Below w.heap.size w w13)); clear HO_3; clear HB; have HO_3 := n0_; have HB := n1_; clear n0_ n1_; clear hg hw hp_))
        go_roundg k1
        case measure => have := HK1.out; omega
        case rel => exact ⟨(y358), (wrap64 (x4_1 + 1)), (by first | rfl | (simp; done) | (simp [*]; done)), H', ⟨by have := HK1.out; omega⟩, ⟨by (with_reducible repeat (first | apply rA_ | apply rN_ | apply rD_)); exact HO_3.out⟩, ⟨bb_ HB⟩⟩
       ·rw [if_neg c9] at H
        exact absurd H (by simp)
      ·rw [if_neg c7] at H
       exact absurd H (by simp)
     ·rw [if_neg c6] at H
      have c6b0 : decide (x4_1 < (l0.length : Int)) = false := decide_eq_false c6
      clear c6
      obtain rfl := Option.some.inj H
      go_wp2
      go_ret
      exact ⟨_, by first | rfl | (simp [errW_none, errW_some] <;> rfl) | (simp [*, errW_none, errW_some] <;> rfl), by (with_reducible repeat (first | apply rA_ | apply rN_ | apply rD_)); exact HO_3.out, bb_ HB⟩
  ·rw [if_neg c3] at H
   exact absurd H (by simp)
 ·rw [if_neg c2] at H
  exact absurd H (by simp)

/-! ### laws_toDesk: function 30 -/
def laws_toDesk.f (k : Nat) (l0_0 : List ByteArray) (l0_1 : List (S23)) (l0_2 : List (S23)) : Option (List ByteArray × (List (S25)) × (List (S25))) := (laws_toStringS.f k l0_0).bind fun t362 => ((laws_toDeskEditS.f k l0_1).bind fun t365 => ((laws_toDeskEditS.f k l0_2).bind fun t368 => (some (t362, t365, t368))))
theorem laws_toDesk.mono : ∀ a0 a1 a2 k, LeO (laws_toDesk.f k a0 a1 a2) (laws_toDesk.f (k + 1) a0 a1 a2) := by
 intro a0 a1 a2 k
 unfold laws_toDesk.f
 repeat' first
   | (with_reducible exact laws_toDeskEditS.mono _ _)
   | (with_reducible exact laws_toStringS.mono _ _)
   | (with_reducible exact LeO.refl _)
   | (with_reducible exact LeO.none _)
   | (with_reducible refine LeO.ite ?_ ?_)
   | (with_reducible refine LeO.bind ?_ (fun _ => ?_))
   | exact LeO.none _
   | refine LeO.ite ?_ ?_
   | refine LeO.bind ?_ (fun _ => ?_)
set_option maxHeartbeats 8000000 in
set_option maxRecDepth 100000 in
theorem laws_toDesk.calls (k : Nat) (A0_0 : Option Addr) (c0_0 : Nat) (l0_0 : List ByteArray) (A0_1 : Option Addr) (c0_1 : Nat) (l0_1 : List (S23)) (A0_2 : Option Addr) (c0_2 : Nat) (l0_2 : List (S23)) (r1 : List ByteArray) (r2 : List (S25)) (r3 : List (S25)) (w : World) (hr0_0 : Kd.C Kd.string w A0_0 l0_0.length l0_0) (hc0_0 : l0_0.length ≤ c0_0) (hr0_1 : Kd.C k23 w A0_1 l0_1.length l0_1) (hc0_1 : l0_1.length ≤ c0_1) (hr0_2 : Kd.C k23 w A0_2 l0_2.length l0_2) (hc0_2 : l0_2.length ≤ c0_2) (h : laws_toDesk.f k l0_0 l0_1 l0_2 = some (r1, r2, r3)) :
  Calls Try.prog 30 #[.agg #[.slice A0_0 l0_0.length c0_0, .slice A0_1 l0_1.length c0_1, .slice A0_2 l0_2.length c0_2]] w fun e w' => ∃ v0_ v1_ v2_ : Value, e = .returned (.agg #[v0_, v1_, v2_]) ∧ Kd.R Kd.string 9 w' w.heap.size (fun _ => True) v0_ r1 ∧ Kd.R k25 25 w' w.heap.size (fun k_ => some k_ ≠ (v2_ : Value).ownBlock) v1_ r2 ∧ Kd.R k25 25 w' w.heap.size (fun k_ => some k_ ≠ (v1_ : Value).ownBlock) v2_ r3 ∧ Below w.heap.size w w' := by
 have hu45 := Try.underlying45
 have hu35 := Try.underlying35
 have HR0_0 := Aside0.mk hr0_0
 have HC0_0 := Aside0.mk hc0_0
 clear hr0_0 hc0_0
 have HR0_1 := Aside0.mk hr0_1
 have HC0_1 := Aside0.mk hc0_1
 clear hr0_1 hc0_1
 have HR0_2 := Aside0.mk hr0_2
 have HC0_2 := Aside0.mk hc0_2
 clear hr0_2 hc0_2
 have HB := Aside0.mk (Below.refl w.heap.size w)
 have H : ((laws_toStringS.f k l0_0).bind fun t362 => ((laws_toDeskEditS.f k l0_1).bind fun t365 => ((laws_toDeskEditS.f k l0_2).bind fun t368 => (some (t362, t365, t368))))) = some (r1, r2, r3) := h
 clear h
 replace H := Option.bind_eq_some_iff.mp H
 obtain ⟨t362, A20, H⟩ := H
 try dsimp only at H
 have A2 := Aside0.mk A20
 clear A20
 replace H := Option.bind_eq_some_iff.mp H
 obtain ⟨t365, A30, H⟩ := H
 try dsimp only at H
 have A3 := Aside0.mk A30
 clear A30
 replace H := Option.bind_eq_some_iff.mp H
 obtain ⟨t368, A40, H⟩ := H
 try dsimp only at H
 have A4 := Aside0.mk A40
 clear A40
 simp only [Option.some.injEq, Prod.mk.injEq] at H
 obtain ⟨rfl, rfl, rfl⟩ := H
 go_enter Try.func30, Try.ntmps30
 go_wp2_with (first | ((with_reducible refine gate_dst (N := 1) rfl ?_); refine box_event ?hg (N := 1) ?hd (cs := #[.slice A0_0 l0_0.length c0_0, .slice A0_1 l0_1.length c0_1, .slice A0_2 l0_2.length c0_2]) (t := 45) ?hr ?_; (case hd => rfl); (case hg => rfl); (case hr => first | (go_simp; done) | (go_simp; rfl)); intro gb359 hg w5 hbox hb; have n0_ := Aside0.mk (bt_ HB hb); have n1_ := Aside0.mk (hbox); have n2_ := gz_ hg HB; have n3_ := gz_ hg HB; clear HB; have HB := n0_; have BK359 := n1_; have GW359 := n2_; have GE359 := n3_; clear n0_ n1_ n2_ n3_; clear hb hbox hg) | ((with_reducible refine gate_dst (N := 2) rfl ?_); refine box_event ?hg (N := 2) ?hd (cs := #[.slice none 0 0, .slice none 0 0, .slice none 0 0]) (t := 35) ?hr ?_; (case hd => rfl); (case hg => rfl); (case hr => first | (go_simp; done) | (go_simp; rfl)); intro gb360 hg w6 hbox hb; have n0_ := Aside0.mk (lb_ BK359 hb); have n1_ := Aside0.mk (below_step (bb1_ HB GE359) hb); have n2_ := Aside0.mk (hbox); have n3_ := gy_ hg (bb1_ HB GE359); have n4_ := gy_ hg (bb1_ HB GE359); have n5_ := nl_ hg BK359; have n6_ := ng_ hg BK359; clear BK359; clear HB; have BK359 := n0_; have HB := n1_; have BK360 := n2_; have GW360 := n3_; have GE360 := n4_; have NB359_360 := n5_; have NB360_359 := n6_; clear n0_ n1_ n2_ n3_ n4_ n5_ n6_; clear hb hbox hg) | ((with_reducible refine gate_dst (N := 3) rfl ?_); refine box_event ?hg (N := 3) ?hd (cs := #[.slice none 0 0, .slice none 0 0, .slice none 0 0]) (t := 35) ?hr ?_; (case hd => rfl); (case hg => rfl); (case hr => first | (go_simp; done) | (go_simp; rfl)); intro gb361 hg w7 hbox hb; have n0_ := Aside0.mk (lb_ BK359 hb); have n1_ := Aside0.mk (lb_ BK360 hb); have n2_ := Aside0.mk (below_step (bb2_ HB GE359 GE360) hb); have n3_ := Aside0.mk (hbox); have n4_ := gy_ hg (bb2_ HB GE359 GE360); have n5_ := gy_ hg (bb2_ HB GE359 GE360); have n6_ := nl_ hg BK359; have n7_ := ng_ hg BK359; have n8_ := nl_ hg BK360; have n9_ := ng_ hg BK360; clear BK359; clear BK360; clear HB; have BK359 := n0_; have BK360 := n1_; have HB := n2_; have BK361 := n3_; have GW361 := n4_; have GE361 := n5_; have NB359_361 := n6_; have NB361_359 := n7_; have NB360_361 := n8_; have NB361_360 := n9_; clear n0_ n1_ n2_ n3_ n4_ n5_ n6_ n7_ n8_ n9_; clear hb hbox hg; have hnb8 := NB359_360.out; have hnc8 := NB360_359.out; have hnb9 := NB359_361.out; have hnc9 := NB361_359.out; have hcz10_0 := cz0_ BK359; have hcz10_1 := cz1_ BK359; have hcz10_2 := cz2_ BK359; have hfz10_0 := fz_ BK359 0; have hfz10_1 := fz_ BK359 1; have hfz10_2 := fz_ BK359 2) | ((with_reducible refine gate_callee (f := 21) rfl ?_); refine goesL_ (some 6) rfl rfl Try.func21 (by kernel_rfl) rfl #[.slice A0_0 l0_0.length c0_0] rfl args_ ?_; (with_reducible refine (laws_toStringS.calls k _ _ l0_0 t362 _ ?side1 ?side2 A2.out).mono ?_); (case side1 => exact cb_ HR0_0 HB); (case side2 => exact HC0_0.out); rintro e w11 ⟨v363, rfl, ho0, hb⟩; refine ⟨_, rfl, ?_⟩; have n0_ := Aside0.mk (Kd.R_lower ho0 (below_size (bb3_ HB GE359 GE360 GE361))); have n1_ := Aside0.mk (lb_ BK359 hb); have n2_ := Aside0.mk (lb_ BK360 hb); have n3_ := Aside0.mk (lb_ BK361 hb); have n4_ := Aside0.mk (below_step (bb3_ HB GE359 GE360 GE361) hb); clear BK359; clear BK360; clear BK361; clear HB; have HO364 := n0_; have BK359 := n1_; have BK360 := n2_; have BK361 := n3_; have HB := n4_; clear n0_ n1_ n2_ n3_ n4_; (try clear hb); (try clear hb2); (try clear hk); (try clear hi); (try clear ho0); obtain ⟨Ao12, co12, eo12⟩ := Kd.R_slice HO364.out; subst eo12; have hnb13 := NB361_360.out; have hnc13 := NB360_361.out; have hcz14_0 := cz0_ BK361; have hcz14_1 := cz1_ BK361; have hcz14_2 := cz2_ BK361; have hfz14_0 := fz_ BK361 0; have hfz14_1 := fz_ BK361 1; have hfz14_2 := fz_ BK361 2; have hcz15_0 := cz0_ BK359; have hcz15_1 := cz1_ BK359; have hcz15_2 := cz2_ BK359; have hfz15_0 := fz_ BK359 0; have hfz15_1 := fz_ BK359 1; have hfz15_2 := fz_ BK359 2) | ((with_reducible refine gate_callee (f := 60) rfl ?_); refine goesL_ (some 10) rfl rfl Try.func60 (by kernel_rfl) rfl #[.slice A0_1 l0_1.length c0_1] rfl args_ ?_; (with_reducible refine (laws_toDeskEditS.calls k _ _ l0_1 t365 _ ?side1 ?side2 A3.out).mono ?_); (case side1 => exact Kd.C_below HR0_1.out (bb3_ HB GE359 GE360 GE361)); (case side2 => exact HC0_1.out); rintro e w16 ⟨v366, rfl, ho0, hb⟩; refine ⟨_, rfl, ?_⟩; have n0_ := Aside0.mk (Kd.R_below (rf_ (fm_ (fr_ (ft_ HO364 BK361) 0 (.slice Ao12 t362.length co12)))) hb); have n1_ := Aside0.mk (Kd.R_lower ho0 (below_size (bb3_ HB GE359 GE360 GE361))); have n2_ := Aside0.mk (blk_below (g := gb359) (o := .cells #[.slice A0_0 l0_0.length c0_0, .slice A0_1 l0_1.length c0_1, .slice A0_2 l0_2.length c0_2] 45 (0, 0)) (by (with_reducible repeat (first | apply lN_ | apply lD_ | apply lA_)); refine blk_far ?_ NB359_361.out _; (with_reducible repeat (first | apply lN_ | apply lD_ | apply lA_)); exact BK359.out) hb); have n3_ := Aside0.mk (blk_below (g := gb360) (o := .cells #[.slice none 0 0, .slice none 0 0, .slice none 0 0] 35 (0, 0)) (by (with_reducible repeat (first | apply lN_ | apply lD_ | apply lA_)); refine blk_far ?_ NB360_361.out _; (with_reducible repeat (first | apply lN_ | apply lD_ | apply lA_)); exact BK360.out) hb); have n4_ := Aside0.mk (blk_below (g := gb361) (o := .cells #[.slice Ao12 t362.length co12, .slice none 0 0, .slice none 0 0] 35 (0, 0)) (by (with_reducible repeat (first | apply lN_ | apply lD_ | apply lA_)); refine blk_put (cs := #[.slice none 0 0, .slice none 0 0, .slice none 0 0]) ?_ 0 _ rfl; (with_reducible repeat (first | apply lN_ | apply lD_ | apply lA_)); exact BK361.out) hb); have n5_ := Aside0.mk (below_step (bb3_ HB GE359 GE360 GE361) hb); clear HO364; clear BK359; clear BK360; clear BK361; clear HB; have HO364 := n0_; have HO367 := n1_; have BK359 := n2_; have BK360 := n3_; have BK361 := n4_; have HB := n5_; clear n0_ n1_ n2_ n3_ n4_ n5_; (try clear hb); (try clear hb2); (try clear hk); (try clear hi); (try clear ho0); obtain ⟨Ao17, co17, eo17⟩ := Kd.R_slice HO367.out; subst eo17; have hcz18_0 := cz0_ BK361; have hcz18_1 := cz1_ BK361; have hcz18_2 := cz2_ BK361; have hfz18_0 := fz_ BK361 0; have hfz18_1 := fz_ BK361 1; have hfz18_2 := fz_ BK361 2; have hcz19_0 := cz0_ BK359; have hcz19_1 := cz1_ BK359; have hcz19_2 := cz2_ BK359; have hfz19_0 := fz_ BK359 0; have hfz19_1 := fz_ BK359 1; have hfz19_2 := fz_ BK359 2) | ((with_reducible refine gate_callee (f := 60) rfl ?_); refine goesL_ (some 14) rfl rfl Try.func60 (by kernel_rfl) rfl #[.slice A0_2 l0_2.length c0_2] rfl args_ ?_; (with_reducible refine (laws_toDeskEditS.calls k _ _ l0_2 t368 _ ?side1 ?side2 A4.out).mono ?_); (case side1 => exact Kd.C_below HR0_2.out (bb3_ HB GE359 GE360 GE361)); (case side2 => exact HC0_2.out); rintro e w20 ⟨v369, rfl, ho0, hb⟩; refine ⟨_, rfl, ?_⟩; have n0_ := Aside0.mk (Kd.R_below (rf_ (fm_ (fr_ (ft_ HO364 BK361) 1 (.slice Ao17 t365.length co17)))) hb); have n1_ := Aside0.mk (Kd.R_elder' (rf_ (fm_ (fr_ (ft_ HO367 BK361) 1 (.slice Ao17 t365.length co17)))) (Kd.R_base ho0) hb); have n2_ := Aside0.mk (Kd.R_lower (Kd.R_new' ho0 (Kd.R_lt (rf_ (fm_ (fr_ (ft_ HO367 BK361) 1 (.slice Ao17 t365.length co17)))))) (below_size (bb3_ HB GE359 GE360 GE361))); have n3_ := Aside0.mk (blk_below (g := gb359) (o := .cells #[.slice A0_0 l0_0.length c0_0, .slice A0_1 l0_1.length c0_1, .slice A0_2 l0_2.length c0_2] 45 (0, 0)) (by (with_reducible repeat (first | apply lN_ | apply lD_ | apply lA_)); refine blk_far ?_ NB359_361.out _; (with_reducible repeat (first | apply lN_ | apply lD_ | apply lA_)); exact BK359.out) hb); have n4_ := Aside0.mk (blk_below (g := gb360) (o := .cells #[.slice none 0 0, .slice none 0 0, .slice none 0 0] 35 (0, 0)) (by (with_reducible repeat (first | apply lN_ | apply lD_ | apply lA_)); refine blk_far ?_ NB360_361.out _; (with_reducible repeat (first | apply lN_ | apply lD_ | apply lA_)); exact BK360.out) hb); have n5_ := Aside0.mk (blk_below (g := gb361) (o := .cells #[.slice Ao12 t362.length co12, .slice Ao17 t365.length co17, .slice none 0 0] 35 (0, 0)) (by (with_reducible repeat (first | apply lN_ | apply lD_ | apply lA_)); refine blk_put (cs := #[.slice Ao12 t362.length co12, .slice none 0 0, .slice none 0 0]) ?_ 1 _ rfl; (with_reducible repeat (first | apply lN_ | apply lD_ | apply lA_)); exact BK361.out) hb); have n6_ := Aside0.mk (below_step (bb3_ HB GE359 GE360 GE361) hb); clear HO364; clear HO367; clear BK359; clear BK360; clear BK361; clear HB; have HO364 := n0_; have HO367 := n1_; have HO370 := n2_; have BK359 := n3_; have BK360 := n4_; have BK361 := n5_; have HB := n6_; clear n0_ n1_ n2_ n3_ n4_ n5_ n6_; (try clear hb); (try clear hb2); (try clear hk); (try clear hi); (try clear ho0); obtain ⟨Ao21, co21, eo21⟩ := Kd.R_slice HO370.out; subst eo21; have hcz22_0 := cz0_ BK361; have hcz22_1 := cz1_ BK361; have hcz22_2 := cz2_ BK361; have hfz22_0 := fz_ BK361 0; have hfz22_1 := fz_ BK361 1; have hfz22_2 := fz_ BK361 2; have hcz23_0 := cz0_ BK360; have hcz23_1 := cz1_ BK360; have hcz23_2 := cz2_ BK360; have hfz23_0 := fz_ BK360 0; have hfz23_1 := fz_ BK360 1; have hfz23_2 := fz_ BK360 2))
 refine bodyPost_ret (results_cell_row rfl _ _ gb360 35 #[.slice Ao12 t362.length co12, .slice Ao17 t365.length co17, .slice Ao21 t368.length co21] (0, 0) _ rfl (by (with_reducible repeat (first | apply lN_ | apply lD_ | apply lA_)); refine blk_put (cs := #[.slice Ao12 t362.length co12, .slice Ao17 t365.length co17, .slice none 0 0]) ?_ 2 _ rfl; (with_reducible repeat (first | apply lN_ | apply lD_ | apply lA_)); refine blk_put (cs := #[.slice Ao12 t362.length co12, .slice none 0 0, .slice none 0 0]) ?_ 1 _ rfl; (with_reducible repeat (first | apply lN_ | apply lD_ | apply lA_)); refine blk_put (cs := #[.slice none 0 0, .slice none 0 0, .slice none 0 0]) ?_ 0 _ rfl; (with_reducible repeat (first | apply lN_ | apply lD_ | apply lA_)); refine blk_far ?_ NB360_361.out _; (with_reducible repeat (first | apply lN_ | apply lD_ | apply lA_)); exact BK360.out) Try.underlying35 rfl (by kernel_rfl)) rfl ?_
 exact ⟨_, _, _, by first | rfl | (simp [errW_none, errW_some] <;> rfl) | (simp [*, errW_none, errW_some] <;> rfl), by (with_reducible repeat (first | apply rA_ | apply rN_ | apply rD_)); exact Kd.R_mono (Kd.R_far (p := ⟨gb360, 2, none⟩) (Kd.R_far (p := ⟨gb360, 1, none⟩) (Kd.R_far (p := ⟨gb360, 0, none⟩) (Kd.R_far (p := ⟨gb361, 2, none⟩) (Kd.R_types (Kd.R_types HO364.out BK361.out (by decide)) BK360.out (by decide)) (fun _ hk => hk.1.2) (.slice Ao21 t368.length co21)) (fun _ hk => hk.2) (.slice Ao12 t362.length co12)) (fun _ hk => hk.2) (.slice Ao17 t365.length co17)) (fun _ hk => hk.2) (.slice Ao21 t368.length co21)) (fun _ hk => trivial), by (with_reducible repeat (first | apply rA_ | apply rN_ | apply rD_)); exact Kd.R_mono (Kd.R_far (p := ⟨gb360, 2, none⟩) (Kd.R_far (p := ⟨gb360, 1, none⟩) (Kd.R_far (p := ⟨gb360, 0, none⟩) (Kd.R_far (p := ⟨gb361, 2, none⟩) (Kd.R_types (Kd.R_types HO367.out BK361.out (by decide)) BK360.out (by decide)) (fun _ hk => hk.1.2) (.slice Ao21 t368.length co21)) (fun _ hk => hk.2) (.slice Ao12 t362.length co12)) (fun _ hk => hk.2) (.slice Ao17 t365.length co17)) (fun _ hk => hk.2) (.slice Ao21 t368.length co21)) (fun _ hk => hk.1.1.2), by (with_reducible repeat (first | apply rA_ | apply rN_ | apply rD_)); exact Kd.R_mono (Kd.R_far (p := ⟨gb360, 2, none⟩) (Kd.R_far (p := ⟨gb360, 1, none⟩) (Kd.R_far (p := ⟨gb360, 0, none⟩) (Kd.R_far (p := ⟨gb361, 2, none⟩) (Kd.R_types (Kd.R_types HO370.out BK361.out (by decide)) BK360.out (by decide)) (fun _ hk => hk.1.2) (.slice Ao21 t368.length co21)) (fun _ hk => hk.2) (.slice Ao12 t362.length co12)) (fun _ hk => hk.2) (.slice Ao17 t365.length co17)) (fun _ hk => hk.2) (.slice Ao21 t368.length co21)) (fun _ hk => hk.1.1.2), bb3_ HB GE359 GE360 GE361⟩

/-! ### impl_itemAt: function 76 -/
def impl_itemAt.f (l0 : List ByteArray) (a1 : Int) : Option (ByteArray) := (impl_within.f a1 0 (wrap64 ((l0.length : Int) - 1))).bind fun t371 => (if t371 = true then (if 0 ≤ a1 then (if a1 < (l0.length : Int) then (some (rdOf ByteArray.empty l0 a1)) else (none)) else (none)) else (some (⟨#[]⟩ : ByteArray)))
set_option maxHeartbeats 8000000 in
set_option maxRecDepth 100000 in
theorem impl_itemAt.calls (A0 : Option Addr) (c0 : Nat) (l0 : List ByteArray) (a1 : Int) (r : ByteArray) (w : World) (hr0 : Kd.C Kd.string w A0 l0.length l0) (hc0 : l0.length ≤ c0) (h : impl_itemAt.f l0 a1 = some r) :
  Calls Try.prog 76 #[.slice A0 l0.length c0, .int .i64 a1] w fun e w' => e = .returned (.string r) ∧ Drawn0 w w' := by
 have HR0 := Aside0.mk hr0
 have HC0 := Aside0.mk hc0
 clear hr0 hc0
 have H : ((impl_within.f a1 0 (wrap64 ((l0.length : Int) - 1))).bind fun t371 => (if t371 = true then (if 0 ≤ a1 then (if a1 < (l0.length : Int) then (some (rdOf ByteArray.empty l0 a1)) else (none)) else (none)) else (some (⟨#[]⟩ : ByteArray)))) = some r := h
 clear h
 replace H := Option.bind_eq_some_iff.mp H
 obtain ⟨t371, A30, H⟩ := H
 try dsimp only at H
 have A3 := Aside0.mk A30
 clear A30
 by_cases c4 : t371 = true
 ·subst c4
  have H1 : (if 0 ≤ a1 then (if a1 < (l0.length : Int) then (some (rdOf ByteArray.empty l0 a1)) else (none)) else (none)) = some r := by rw [if_pos rfl] at H; exact H
  clear H
  have H := H1
  clear H1
  by_cases c5 : 0 ≤ a1
  ·rw [if_pos c5] at H
   have c5b0 : decide (0 ≤ a1) = true := decide_eq_true c5
   clear c5
   by_cases c6 : a1 < (l0.length : Int)
   ·rw [if_pos c6] at H
    have c6b0 : decide (a1 < (l0.length : Int)) = true := decide_eq_true c6
    clear c6
    obtain rfl := Option.some.inj H
    go_enter Try.func76, Try.ntmps76
    go_wp2_with (first | ((with_reducible refine gate_callee (f := 66) rfl ?_); refine goesL_ (some 9) rfl rfl Try.func66 (by kernel_rfl) rfl #[.int .i64 a1, .int .i64 0, .int .i64 (wrap64 ((l0.length : Int) - 1))] rfl args_ ?_; (with_reducible refine (impl_within.calls a1 0 (wrap64 ((l0.length : Int) - 1)) true _ A3.out).mono ?_); rintro e w' ⟨rfl, ⟨nd, rfl⟩⟩; refine ⟨_, rfl, ?_⟩; have p372 : 0 ≤ (a1 : Int) := of_decide_eq_true as_; have q372 : a1 < (l0.length : Int) := of_decide_eq_true as_; obtain ⟨ad372, e372, hx372_0⟩ := Kd.at_string HR0.out a1 p372 q372; cases e372; replace p372 := eq_true p372; replace q372 := eq_true q372))
    go_ret
    exact ⟨by first | rfl | (simp; done) | (simp [*]; done), by repeat (first | exact Drawn0.refl _ | apply Drawn0.step)⟩
   ·rw [if_neg c6] at H
    exact absurd H (by simp)
  ·rw [if_neg c5] at H
   exact absurd H (by simp)
 ·replace c4 := Bool.eq_false_iff.mpr c4
  subst c4
  have H1 : (some (⟨#[]⟩ : ByteArray)) = some r := by rw [if_neg (show ¬ (false = true) by decide)] at H; exact H
  clear H
  have H := H1
  clear H1
  obtain rfl := Option.some.inj H
  go_enter Try.func76, Try.ntmps76
  go_wp2_with (first | ((with_reducible refine gate_callee (f := 66) rfl ?_); refine goesL_ (some 9) rfl rfl Try.func66 (by kernel_rfl) rfl #[.int .i64 a1, .int .i64 0, .int .i64 (wrap64 ((l0.length : Int) - 1))] rfl args_ ?_; (with_reducible refine (impl_within.calls a1 0 (wrap64 ((l0.length : Int) - 1)) false _ A3.out).mono ?_); rintro e w' ⟨rfl, ⟨nd, rfl⟩⟩; refine ⟨_, rfl, ?_⟩))
  go_ret
  exact ⟨by first | rfl | (simp; done) | (simp [*]; done), by repeat (first | exact Drawn0.refl _ | apply Drawn0.step)⟩

/-! ### impl_made: function 61 -/
def insRen : Go.Shelf.Ren := ⟨fun | 22 => 80 | 17 => 95 | 29 => 88 | 30 => 89 | 36 => 93 | n => n, fun | 24 => 31 | 9 => 9 | 3 => 3 | 4 => 4 | 0 => 0 | n => n, fun | n => n⟩
theorem insLays : Go.Proofs.Lays2.n22 Try.prog insRen := {
 mixed := by kernel_rfl
 f17 := Try.func95.trans (congrArg some (by kernel_rfl))
 f22 := Try.func80.trans (congrArg some (by kernel_rfl))
 f29 := Try.func88.trans (congrArg some (by kernel_rfl))
 f30 := Try.func89.trans (congrArg some (by kernel_rfl))
 f36 := Try.func93.trans (congrArg some (by kernel_rfl))
 t0 := Try.underlying0
 a0 := Try.isAgg0
 z0 := Try.sizeOf0
 v0 := Try.zeroValue0
 t3 := Try.underlying3
 a3 := Try.isAgg3
 z3 := Try.sizeOf3
 v3 := Try.zeroValue3
 t4 := Try.underlying4
 a4 := Try.isAgg4
 z4 := Try.sizeOf4
 v4 := Try.zeroValue4
 t9 := Try.underlying9
 a9 := Try.isAgg9
 z9 := Try.sizeOf9
 v9 := Try.zeroValue9
 t24 := Try.underlying31
 a24 := Try.isAgg31
 z24 := Try.sizeOf31
 v24 := Try.zeroValue31
 i9 := by kernel_rfl }
theorem below_cells {a : World} (b : Nat) (hb : a.heap.size ≤ b) : ∀ (vs : List Value) (o : Nat) {w : World}, Below a.heap.size a w → Below a.heap.size a (w.setCells b o vs)
 | [], _, _, h => h
 | v :: r, o, _, h => below_cells b hb r (o + 1) (below_set h hb)
theorem strR_made {w : World} {base g cap : Nat} {cur : Array Value} {ys : List ByteArray} (hh : w.heap[g]? = some (.cells cur 9 (0, 0))) (hb : base ≤ g) (hn : ys.length ≤ cap) (hc : cap ≤ maxLen) (hs : cur.size = cap) (ht : cur.toList.take ys.length = ys.map Value.string) :
  Kd.R Kd.string 9 w base (fun _ => True) (.slice (some ⟨g, 0, none⟩) ys.length cap) ys := by
 refine Kd.R_of_own ⟨by rw [encs_length, Nat.mul_one], .inr ⟨g, cap, cur, rfl, hb, hh, hn, hc, by rw [hs, Nat.mul_one], by rw [Nat.mul_one]; exact ht⟩⟩ (fun _ _ => trivial)
theorem zero_size (n : Nat) : (Builtin.zeroCells (Value.string ⟨#[]⟩).cells n).size = n := by
 unfold Builtin.zeroCells; simp [Value.cells]
theorem grown_ok (w : World) (n c : Nat) (e : TypeId) (h : n ≤ 2000000) : n ≤ grownCap w n c e ∧ grownCap w n c e ≤ maxLen := ⟨grownCap_ge _ _ _ _, grownCap_le_maxLen _ _ _ _ (by unfold maxLen; omega)⟩
/-- slices.Insert of one text into a row of one's own. -/
theorem insR {W0 w : World} {v : Value} {xs : List ByteArray} (i : Nat) (s : ByteArray) (vb vc : Nat) (HO : Kd.R Kd.string 9 w W0.heap.size (fun _ => True) v xs) (HB : Below W0.heap.size W0 w)
  (hi : i ≤ xs.length) (hs : xs.length ≤ 1000000) (hv : w.heap[vb]? = some (.cells #[.string s] 9 (0, 0))) (hne : some vb ≠ v.ownBlock) :
  Calls Try.prog 80 #[v, .int .i64 (i : Int), .slice (some ⟨vb, 0, none⟩) 1 vc] w fun e w' => ∃ v', e = .returned v' ∧ Kd.R Kd.string 9 w' W0.heap.size (fun _ => True) v' (xs.take i ++ s :: xs.drop i) ∧ Below W0.heap.size W0 w' := by
 have hbase : W0.heap.size ≤ w.heap.size := HB.size
 have hvs : ∀ j u, ([Value.string s] : List Value)[j]? = some u → w.cell? ⟨vb, 0 + j, none⟩ = some u := by
  intro j u hj
  rw [Nat.zero_add, blk_cell hv j]
  cases j with
  | zero => simpa using hj
  | succ j => simp at hj
 have h1v : ∀ u ∈ ([Value.string s] : List Value), u.oneCell' = true := by simp [Value.oneCell']
 have h1c : ∀ u ∈ xs.map Value.string, u.oneCell' = true := by simp [Value.oneCell']
 have hlen : (xs.take i ++ s :: xs.drop i).length = xs.length + 1 := by simp; omega
 rcases (Kd.own_of_R HO).2 with ⟨hv0, hn0⟩ | ⟨g, cap, cur, hv0, hb, hh, hle, hcm, hcs, htake⟩
 ·have hx : xs = [] := List.eq_nil_of_length_eq_zero hn0
  subst hx
  have hi0 : i = 0 := by simpa using hi
  subst hi0
  rw [hv0]
  refine (Any2.slices_Insert_string_end_grow insLays none 0 0 vb 0 1 vc [] [.string s] w (by omega) (by omega) (by omega) (by omega) rfl rfl (fun _ => rfl) (fun a h => by cases h) hvs h1v).mono ?_
  rintro e w' ⟨rfl, rfl⟩
  have hg := grown_ok w (0 + 1) 0 (insRen.t 9) (by omega)
  obtain ⟨G, hG⟩ : ∃ G, G = grownCap w (0 + 1) 0 (insRen.t 9) := ⟨_, rfl⟩
  rw [← hG] at hg ⊢
  refine ⟨_, rfl, ?_, below_alloc (below_drew1 HB) _⟩
  exact strR_made (cap := G) (ys := [s]) (heap_alloc_new w.drew (.cells (([] ++ [Value.string s]).toArray ++ Builtin.zeroCells (Value.string ⟨#[]⟩).cells (G - (0 + 1))) 9)) hbase hg.1 hg.2 (by simp [zero_size]; omega) (by simp)
 ·have hcs' : cur.size = cap := by rw [hcs, Nat.mul_one]
  have ht' : cur.toList.take xs.length = xs.map Value.string := by rw [Nat.mul_one] at htake; exact htake
  subst hv0
  have hvg : vb ≠ g := fun e => hne (by rw [e]; rfl)
  have hcl : (xs.map Value.string).length = xs.length := List.length_map _
  have hC : cur.toList.length = cap := by rw [Array.length_toList, hcs']
  have hcell : ∀ j u, (xs.map Value.string)[j]? = some u → w.cell? ⟨g, 0 + j, none⟩ = some u := by
   intro j u hj
   rw [Nat.zero_add, blk_cell hh j]
   rw [← ht', List.getElem?_take] at hj
   split at hj
   ·rw [← hj, Array.getElem?_toList]
   ·cases hj
  by_cases hin : i < xs.length
  ·by_cases hroom : xs.length + 1 ≤ cap
   ·refine (Any2.slices_Insert_string_shift insLays g 0 xs.length cap i vb 0 1 vc (xs.map Value.string) [.string s] w hin (by omega) hroom (by unfold maxLen at hcm; omega) hvg hcl rfl hcell (fun j hj => ?_) (fun j hj => blk_frozen hh _) hvs h1c h1v 9 9 1 cap (by simp [World.shape?, hv]) (by simp [World.shape?, hh, hcs']) (by omega) (blk_frozen hv _) (blk_frozen hv _)).mono ?_
    ·rw [blk_cell hh, Array.getElem?_eq_getElem (by omega)]; rfl
    rintro e w' ⟨rfl, rfl⟩
    obtain ⟨cur1, h1, h2, h3⟩ := setCells_row (e := 9) ((xs.map Value.string).drop i) (0 + (i + 1)) w.drew cur hh (by simp; omega)
    obtain ⟨cur2, h4, h5, h6⟩ := setCells_row (e := 9) [.string s] (0 + i) _ cur1 h1 (by simp; omega)
    refine ⟨_, rfl, ?_, below_cells _ hb _ _ (below_cells _ hb _ _ (below_drew1 HB))⟩
    have e1 : cur1.toList.take i = (xs.map Value.string).take i := by
     rw [h3, ← ht', List.append_assoc, List.take_append_of_le_length (by simp; omega), List.take_take, List.take_take]
     congr 1; omega
    have e2 : cur1.toList.drop (i + 1) = (xs.map Value.string).drop i ++ cur.toList.drop (0 + (i + 1) + ((xs.map Value.string).drop i).length) := by
     rw [h3, List.append_assoc, List.drop_append_of_le_length (by simp; omega), List.drop_eq_nil_of_le (by simp; omega), List.nil_append]
    have e3 : cur2.toList.take (xs.length + 1) = (xs.take i ++ s :: xs.drop i).map Value.string := by
     rw [h6, Nat.zero_add, e1, show i + [Value.string s].length = i + 1 from rfl, e2, ← List.append_assoc, List.take_append_of_le_length (by simp; omega), List.take_of_length_le (by simp; omega)]
     simp
    have := strR_made (ys := xs.take i ++ s :: xs.drop i) h4 hb (by rw [hlen]; exact hroom) hcm (by rw [h5, h2, hcs']) (by rw [hlen]; exact e3)
    rw [hlen] at this
    exact this
   ·refine (Any2.slices_Insert_string_grow insLays g 0 xs.length cap i vb 0 1 vc (xs.map Value.string) [.string s] w hin (by omega) hle (by omega) (by omega) hcl rfl hcell hvs h1c h1v).mono ?_
    rintro e w' ⟨rfl, rfl⟩
    have hg := grown_ok w (xs.length + 1) cap 9 (by omega)
    obtain ⟨G, hG⟩ : ∃ G, G = grownCap w (xs.length + 1) cap 9 := ⟨_, rfl⟩
    rw [show insRen.t 9 = 9 from rfl, ← hG]
    rw [← hG] at hg
    obtain ⟨cur1, h1, h2, h3⟩ := setCells_row (e := 9) [.string s] i ((w.alloc (.cells (((xs.map Value.string).take i).toArray ++ Builtin.zeroCells (Value.string ⟨#[]⟩).cells (xs.length + 1 - i) ++ Builtin.zeroCells (Value.string ⟨#[]⟩).cells (G - (xs.length + 1))) 9)).drew) _ (heap_alloc_new _ _) (by simp [zero_size]; omega)
    obtain ⟨cur2, h4, h5, h6⟩ := setCells_row (e := 9) ((xs.map Value.string).drop i) (i + 1) (World.drew (World.setCells _ w.heap.size i [.string s])) cur1 h1 (by rw [h2]; simp [zero_size]; omega)
    refine ⟨_, rfl, ?_, below_cells _ hbase _ _ (below_drew1 (below_cells _ hbase _ _ (below_drew1 (below_alloc HB _))))⟩
    have hs1 : cur1.size = G := by rw [h2]; simp [zero_size]; omega
    have e1 : cur1.toList.take (i + 1) = (xs.map Value.string).take i ++ [.string s] := by
     rw [h3, List.take_append_of_le_length (by simp [zero_size]; omega), List.take_of_length_le (by simp [zero_size]; omega)]
     congr 1
     rw [Array.toList_append, Array.toList_append, List.append_assoc, List.take_append_of_le_length (by simp; omega), List.take_of_length_le (by simp; omega)]
    have e3 : cur2.toList.take (xs.length + 1) = (xs.take i ++ s :: xs.drop i).map Value.string := by
     rw [h6, e1, List.take_append_of_le_length (by simp; omega), List.take_of_length_le (by simp; omega)]
     simp
    have := strR_made (ys := xs.take i ++ s :: xs.drop i) h4 hbase (by rw [hlen]; exact hg.1) hg.2 (by rw [h5, hs1]) (by rw [hlen]; exact e3)
    rw [hlen] at this
    exact this
  ·have hie : i = xs.length := by omega
   subst hie
   by_cases hroom : xs.length + 1 ≤ cap
   ·refine (Any2.slices_Insert_string_end_room insLays g 0 xs.length cap vb 0 1 vc [.string s] w (by omega) hroom (by unfold maxLen at hcm; omega) rfl (fun j hj => ?_) (fun j hj => blk_frozen hh _) hvs h1v).mono ?_
    ·rw [blk_cell hh, Array.getElem?_eq_getElem (by omega)]; rfl
    rintro e w' ⟨rfl, rfl⟩
    obtain ⟨cur1, h1, h2, h3⟩ := setCells_row (e := 9) [.string s] (0 + xs.length) w cur hh (by simp; omega)
    refine ⟨_, rfl, ?_, below_cells _ hb _ _ HB⟩
    have e3 : cur1.toList.take (xs.length + 1) = (xs.take xs.length ++ s :: xs.drop xs.length).map Value.string := by
     rw [h3, Nat.zero_add, ht', List.take_append_of_le_length (by simp), List.take_of_length_le (by simp)]
     simp
    have := strR_made (ys := xs.take xs.length ++ s :: xs.drop xs.length) h1 hb (by rw [hlen]; exact hroom) hcm (by rw [h2, hcs']) (by rw [hlen]; exact e3)
    rw [hlen] at this
    exact this
   ·refine (Any2.slices_Insert_string_end_grow insLays (some ⟨g, 0, none⟩) xs.length cap vb 0 1 vc (xs.map Value.string) [.string s] w (by omega) hle (by omega) (by omega) hcl rfl (fun h => by cases h) (fun a ha j u hj => ?_) hvs h1v).mono ?_
    ·cases ha
     have := hcell j u hj
     rw [Nat.zero_add] at this
     rw [add_plain]
     exact this
    rintro e w' ⟨rfl, rfl⟩
    have hg := grown_ok w (xs.length + 1) cap 9 (by omega)
    obtain ⟨G, hG⟩ : ∃ G, G = grownCap w (xs.length + 1) cap 9 := ⟨_, rfl⟩
    rw [show insRen.t 9 = 9 from rfl, ← hG]
    rw [← hG] at hg
    refine ⟨_, rfl, ?_, below_alloc (below_drew1 HB) _⟩
    have := strR_made (cap := G) (ys := xs.take xs.length ++ s :: xs.drop xs.length) (heap_alloc_new w.drew (.cells ((xs.map Value.string ++ [Value.string s]).toArray ++ Builtin.zeroCells (Value.string ⟨#[]⟩).cells (G - (xs.length + 1))) 9)) hbase (by rw [hlen]; exact hg.1) hg.2 (by simp [zero_size]; omega) (by rw [hlen, Array.toList_append, List.take_append_of_le_length (by simp), List.take_of_length_le (by simp)]; simp)
    rw [hlen] at this
    exact this
/-- slices.Delete of one text out of a row of one's own. -/
theorem delR {W0 w : World} {v : Value} {xs : List ByteArray} (i : Nat) (HO : Kd.R Kd.string 9 w W0.heap.size (fun _ => True) v xs) (HB : Below W0.heap.size W0 w) (hi : i < xs.length) :
  Calls Try.prog 81 #[v, .int .i64 (i : Int), .int .i64 ((i : Int) + 1)] w fun e w' => ∃ v', e = .returned v' ∧ Kd.R Kd.string 9 w' W0.heap.size (fun _ => True) v' (xs.eraseIdx i) ∧ Below W0.heap.size W0 w' := by
 have hbase : W0.heap.size ≤ w.heap.size := HB.size
 rcases (Kd.own_of_R HO).2 with ⟨hv0, hn0⟩ | ⟨g, cap, cur, hv0, hb, hh, hle, hcm, hcs, htake⟩
 ·omega
 ·have hcs' : cur.size = cap := by rw [hcs, Nat.mul_one]
  have ht' : cur.toList.take xs.length = xs.map Value.string := by rw [Nat.mul_one] at htake; exact htake
  subst hv0
  have hcell : ∀ j, j < xs.length → w.cell? ⟨g, 0 + j, none⟩ = some (.string (xs.getD j ⟨#[]⟩)) := by
   intro j hj
   have h1 : (cur.toList.take xs.length)[j]? = some (.string (xs.getD j ⟨#[]⟩)) := by rw [ht', List.getElem?_map]; simp [hj]
   rw [Nat.zero_add, blk_cell hh j]
   rw [List.getElem?_take, if_pos hj] at h1
   rw [← h1, Array.getElem?_toList]
  refine (Try.slices_Delete_string_cells g 0 xs.length cap i (i + 1) (fun j => xs.getD j ⟨#[]⟩) w hle (by unfold maxLen at hcm; omega) (by omega) (by omega) hcell (fun j _ => blk_frozen hh _)).mono ?_
  rintro e w' ⟨rfl, q, rfl⟩
  have hS : (Lib.strsOf (fun j => xs.getD j ⟨#[]⟩) xs.length).map encStr = xs.map Value.string := by
   unfold Lib.strsOf
   rw [List.map_map]
   apply List.ext_getElem?
   intro j
   rw [List.getElem?_map, List.getElem?_map]
   by_cases hj : j < xs.length
   ·rw [List.getElem?_range hj]; simp [hj]
   ·rw [List.getElem?_eq_none (l := List.range _) (by simp; omega), List.getElem?_eq_none (l := xs) (by omega)]; rfl
  obtain ⟨cur1, h1, h2, h3⟩ := setCells_row (e := 9) (((Lib.strsOf (fun j => xs.getD j ⟨#[]⟩) xs.length).take i ++ (Lib.strsOf (fun j => xs.getD j ⟨#[]⟩) xs.length).drop (i + 1) ++ List.replicate (i + 1 - i) []).map encStr) 0 (w.drewN q) cur hh (by simp [Lib.strsOf]; omega)
  have hel : (xs.eraseIdx i).length = xs.length - 1 := List.length_eraseIdx_of_lt hi
  refine ⟨_, rfl, ?_, below_cells _ hb _ _ (pw_below_drewN HB _)⟩
  have e3 : cur1.toList.take (xs.length - 1) = (xs.eraseIdx i).map Value.string := by
   rw [h3, List.take_zero, List.nil_append, List.map_append, List.map_append, List.map_take, List.map_drop, hS, ← List.map_take, ← List.map_drop, ← List.map_append, ← List.eraseIdx_eq_take_drop_succ, List.append_assoc, List.take_append_of_le_length (by simp [hel]), List.take_of_length_le (by simp [hel])]
  have := strR_made (ys := xs.eraseIdx i) h1 hb (by rw [hel]; omega) hcm (by rw [h2, hcs']) (by rw [hel]; exact e3)
  rw [hel] at this
  rw [show xs.length - (i + 1 - i) = xs.length - 1 by omega]
  exact this
/-- The items after edits. -/
def madeL (k : Nat) : List ByteArray → List S25 → Option (List ByteArray × Bool)
 | l, [] => some (l, true)
 | l, e :: es => (impl_isDeskEdit.f k e.f0 e.f1 e.f2 e.f3).bind fun t => if t = true then
   (if 0 ≤ e.f1 ∧ l.length ≤ 1000000 then
    (if e.f0 = 0 then (if e.f1 > (l.length : Int) then some ([], false) else if (l.length : Int) = 20 then some ([], false) else madeL k (l.take e.f1.toNat ++ e.f2 :: l.drop e.f1.toNat) es)
    else (impl_itemAt.f l e.f1).bind fun s => if (s.toList != e.f3.toList) = true then some ([], false) else
     if e.f1 < (l.length : Int) then (if e.f0 = 1 then madeL k (l.eraseIdx e.f1.toNat) es else madeL k (l.set e.f1.toNat e.f2) es) else none) else none)
   else some ([], false)
def impl_made.f (k : Nat) (l0 : List ByteArray) (l1 : List S25) : Option (List ByteArray × Bool) := if l1.length ≤ 1000000 then (slices_Clone_string_string.f l0).bind fun y => madeL k y l1 else none
theorem madeL.mono (k : Nat) : ∀ es l, LeO (madeL k l es) (madeL (k + 1) l es)
 | [], l => LeO.refl _
 | e :: es, l => by
  simp only [madeL]
  refine LeO.bind (impl_isDeskEdit.mono _ _ _ _ _) (fun t => ?_)
  refine LeO.ite (LeO.ite (LeO.ite (LeO.ite (LeO.refl _) (LeO.ite (LeO.refl _) (madeL.mono k es _))) (LeO.bind (LeO.refl _) (fun s => LeO.ite (LeO.refl _) (LeO.ite (LeO.ite (madeL.mono k es _) (madeL.mono k es _)) (LeO.refl _))))) (LeO.refl _)) (LeO.refl _)
theorem impl_made.mono : ∀ a0 a1 k, LeO (impl_made.f k a0 a1) (impl_made.f (k + 1) a0 a1) := by
 intro a0 a1 k
 unfold impl_made.f
 exact LeO.ite (LeO.bind (LeO.refl _) (fun _ => madeL.mono k _ _)) (LeO.refl _)
set_option maxHeartbeats 4000000 in
set_option maxRecDepth 100000 in
theorem impl_made.calls (k : Nat) (A0 : Option Addr) (c0 : Nat) (l0 : List ByteArray) (A1 : Option Addr) (c1 : Nat) (l1 : List S25) (r1 : List ByteArray) (r2 : Bool) (w : World) (hr0 : Kd.C Kd.string w A0 l0.length l0) (hc0 : l0.length ≤ c0) (hr1 : Kd.C k25 w A1 l1.length l1) (hc1 : l1.length ≤ c1) (h : impl_made.f k l0 l1 = some (r1, r2)) :
  Calls Try.prog 61 #[.slice A0 l0.length c0, .slice A1 l1.length c1] w fun e w' => ∃ v0_ : Value, e = .returned (.tuple #[v0_, .bool r2]) ∧ Kd.R Kd.string 9 w' w.heap.size (fun _ => True) v0_ r1 ∧ Below w.heap.size w w' := by
 have hu25 := Try.underlying25
 have huS := Try.underlying31
 have huL := Try.underlying33
 have HB := Aside0.mk (Below.refl w.heap.size w)
 unfold impl_made.f at h
 by_cases hlen1 : ¬ l1.length ≤ 1000000
 ·rw [if_neg hlen1] at h; exact absurd h (by simp)
 have hlen1 : l1.length ≤ 1000000 := by omega
 rw [if_pos hlen1] at h
 obtain ⟨y, hy, hN⟩ := Option.bind_eq_some_iff.mp h
 clear h
 have h := hN
 clear hN
 have HY := Aside0.mk hy
 have HR0 := Aside0.mk hr0
 have HC0 := Aside0.mk hc0
 have HR1 := Aside0.mk hr1
 have HH := Aside0.mk h
 clear hy hr0 hc0 hr1 hc1 h
 go_enter Try.func61, Try.ntmps61
 go_wp2_with (go_at_call 53; (with_reducible refine (slices_Clone_string_string.calls _ _ l0 y _ (by exact cb_ HR0 HB) HC0.out HY.out).mono ?_); rintro e wq ⟨v2, rfl, ho, hb⟩; have n0_ := Aside0.mk (bt_ HB hb); have n1_ := Aside0.mk (Kd.R_lower ho (bz_ HB)); clear HB; have HB := n0_; have HO := n1_; clear n0_ n1_ hb ho)
 go_loopg [0, 12] (l1.length) (fun kq v0 v12 w' => ∃ (x : List ByteArray) (i : Nat), v12 = .int .i64 (i : Int) ∧ Aside0 (kq = l1.length - i) ∧ Aside0 (i ≤ l1.length) ∧ Aside0 (madeL k x (l1.drop i) = some (r1, r2)) ∧ Aside0 (Kd.R Kd.string 9 w' w.heap.size (fun _ => True) v0 x) ∧ Aside0 (Below w.heap.size w w'))
 case atStart => exact ⟨y, 0, rfl, ⟨rfl⟩, ⟨Nat.zero_le _⟩, HH, ⟨by (with_reducible repeat (first | apply rA_ | apply rN_ | apply rD_)); exact HO.out⟩, ⟨(bb_ HB)⟩⟩
 case round =>
  clear HH HO
  obtain ⟨x, i, rfl, HK, HI, HM, HO, HB⟩ := hrel
  obtain ⟨Ax, cx, rfl, hcx, -⟩ := Kd.R_reads HO.out
  have HCX := Aside0.mk hcx
  clear hcx
  by_cases hlt : i < l1.length
  ·have hwi : wrap64 ((i : Int) + 1) = ((i + 1 : Nat) : Int) := by unfold wrap64; omega
   have hM := HM.out
   rw [List.drop_eq_getElem_cons hlt] at hM
   simp only [madeL] at hM
   have hi0 : (0 : Int) ≤ (i : Int) := by omega
   have hi1 : (i : Int) < (l1.length : Int) := by omega
   obtain ⟨ad, eA, hx0, hx1, hx2, hx3⟩ := at_T25 (Kd.C_below HR1.out HB.out) (i : Int) hi0 hi1
   cases eA
   have e25 : rd_T25 l1 (i : Int) = l1[i] := by
    unfold rd_T25
    rw [List.getD_eq_getElem?_getD]
    simp [hlt]
   rw [e25] at hx0 hx1 hx2 hx3
   generalize l1[i] = ed at hM hx0 hx1 hx2 hx3
   obtain ⟨f0, f1, f2, f3⟩ := ed
   simp only [Int.toNat_natCast] at hM hx0 hx1 hx2 hx3
   obtain ⟨t, ht, hN⟩ := Option.bind_eq_some_iff.mp hM
   clear hM
   have hM := hN
   clear hN
   have HT := Aside0.mk ht
   clear ht e25
   cases t
   ·simp only [Bool.false_eq_true, if_false, Option.some.injEq, Prod.mk.injEq] at hM
    obtain ⟨rfl, rfl⟩ := hM
    go_wp2_with (go_at_call 50; (with_reducible refine (impl_isDeskEdit.calls k f0 f1 f2 f3 false _ HT.out).mono ?_); rintro e wq ⟨rfl, hb⟩; have m0_ := Aside0.mk (blk_below (heap_alloc_new wr (.cells #[.int .i64 f0, .int .i64 f1, .string f2, .string f3] 25)) hb); have n0_ := Aside0.mk (bt_ HB hb); have n1_ := Aside0.mk (Kd.R_below (Kd.R_alloc HO.out (.cells #[.int .i64 f0, .int .i64 f1, .string f2, .string f3] 25)) hb); clear HB HO; have HB := n0_; have BK := m0_; have HO := n1_; clear n0_ m0_ n1_ hb; have hz0 : wq.cell? ⟨wr.heap.size, 0, none⟩ = some (.int .i64 f0) := (blk_cell BK.out 0).trans rfl; have hz1 : wq.cell? ⟨wr.heap.size, 1, none⟩ = some (.int .i64 f1) := (blk_cell BK.out 1).trans rfl; have hz2 : wq.cell? ⟨wr.heap.size, 2, none⟩ = some (.string f2) := (blk_cell BK.out 2).trans rfl; have hz3 : wq.cell? ⟨wr.heap.size, 3, none⟩ = some (.string f3) := (blk_cell BK.out 3).trans rfl)
    go_ret2
    exact ⟨_, by first | rfl | (simp; done), Kd.R_nil _ _ _ _ _, (bb_ HB)⟩
   ·simp only [if_true] at hM
    by_cases hL : 0 ≤ f1 ∧ x.length ≤ 1000000
    ·rw [if_pos hL] at hM
     obtain ⟨n1, rfl⟩ : ∃ n : Nat, f1 = (n : Int) := ⟨f1.toNat, by omega⟩
     have HL := Aside0.mk hL.2
     clear hL
     simp only [Int.toNat_natCast] at hM
     by_cases h0 : f0 = 0
     ·rw [if_pos h0] at hM
      subst h0
      by_cases h1 : (n1 : Int) > (x.length : Int)
      ·rw [if_pos h1] at hM
       simp only [Option.some.injEq, Prod.mk.injEq] at hM
       obtain ⟨rfl, rfl⟩ := hM
       have h1b : decide ((n1 : Int) > (x.length : Int)) = true := decide_eq_true h1
       have h1c : decide ((x.length : Int) < (n1 : Int)) = true := decide_eq_true h1
       have h1d : decide (x.length < n1) = true := decide_eq_true (by omega)
       go_wp2_with (go_at_call 50; (with_reducible refine (impl_isDeskEdit.calls k 0 (n1 : Int) f2 f3 true _ HT.out).mono ?_); rintro e wq ⟨rfl, hb⟩; have m0_ := Aside0.mk (blk_below (heap_alloc_new wr (.cells #[.int .i64 0, .int .i64 (n1 : Int), .string f2, .string f3] 25)) hb); have n0_ := Aside0.mk (bt_ HB hb); have n1_ := Aside0.mk (Kd.R_below (Kd.R_alloc HO.out (.cells #[.int .i64 0, .int .i64 (n1 : Int), .string f2, .string f3] 25)) hb); clear HB HO; have HB := n0_; have BK := m0_; have HO := n1_; clear n0_ m0_ n1_ hb; have hz0 : wq.cell? ⟨wr.heap.size, 0, none⟩ = some (.int .i64 0) := (blk_cell BK.out 0).trans rfl; have hz1 : wq.cell? ⟨wr.heap.size, 1, none⟩ = some (.int .i64 (n1 : Int)) := (blk_cell BK.out 1).trans rfl; have hz2 : wq.cell? ⟨wr.heap.size, 2, none⟩ = some (.string f2) := (blk_cell BK.out 2).trans rfl; have hz3 : wq.cell? ⟨wr.heap.size, 3, none⟩ = some (.string f3) := (blk_cell BK.out 3).trans rfl)
       go_ret2
       exact ⟨_, by first | rfl | (simp; done), Kd.R_nil _ _ _ _ _, (bb_ HB)⟩
      ·rw [if_neg h1] at hM
       have h1b : decide ((n1 : Int) > (x.length : Int)) = false := decide_eq_false h1
       have h1c : decide ((x.length : Int) < (n1 : Int)) = false := decide_eq_false h1
       have h1d : decide (x.length < n1) = false := decide_eq_false (by omega)
       by_cases h2 : (x.length : Int) = 20
       ·rw [if_pos h2] at hM
        simp only [Option.some.injEq, Prod.mk.injEq] at hM
        obtain ⟨rfl, rfl⟩ := hM
        have h2b : ((x.length : Int) == 20) = true := beq_iff_eq.mpr h2
        go_wp2_with (go_at_call 50; (with_reducible refine (impl_isDeskEdit.calls k 0 (n1 : Int) f2 f3 true _ HT.out).mono ?_); rintro e wq ⟨rfl, hb⟩; have m0_ := Aside0.mk (blk_below (heap_alloc_new wr (.cells #[.int .i64 0, .int .i64 (n1 : Int), .string f2, .string f3] 25)) hb); have n0_ := Aside0.mk (bt_ HB hb); have n1_ := Aside0.mk (Kd.R_below (Kd.R_alloc HO.out (.cells #[.int .i64 0, .int .i64 (n1 : Int), .string f2, .string f3] 25)) hb); clear HB HO; have HB := n0_; have BK := m0_; have HO := n1_; clear n0_ m0_ n1_ hb; have hz0 : wq.cell? ⟨wr.heap.size, 0, none⟩ = some (.int .i64 0) := (blk_cell BK.out 0).trans rfl; have hz1 : wq.cell? ⟨wr.heap.size, 1, none⟩ = some (.int .i64 (n1 : Int)) := (blk_cell BK.out 1).trans rfl; have hz2 : wq.cell? ⟨wr.heap.size, 2, none⟩ = some (.string f2) := (blk_cell BK.out 2).trans rfl; have hz3 : wq.cell? ⟨wr.heap.size, 3, none⟩ = some (.string f3) := (blk_cell BK.out 3).trans rfl)
        go_ret2
        exact ⟨_, by first | rfl | (simp; done), Kd.R_nil _ _ _ _ _, (bb_ HB)⟩
       ·rw [if_neg h2] at hM
        have h2b : ((x.length : Int) == 20) = false := beq_eq_false_iff_ne.mpr h2
        have HM' := Aside0.mk hM
        clear hM HM
        go_wp2_with (first | (go_at_call 50; (with_reducible refine (impl_isDeskEdit.calls k 0 (n1 : Int) f2 f3 true _ HT.out).mono ?_); rintro e wq ⟨rfl, hb⟩; have m0_ := Aside0.mk (blk_below (heap_alloc_new wr (.cells #[.int .i64 0, .int .i64 (n1 : Int), .string f2, .string f3] 25)) hb); have n0_ := Aside0.mk (bt_ HB hb); have n1_ := Aside0.mk (Kd.R_below (Kd.R_alloc HO.out (.cells #[.int .i64 0, .int .i64 (n1 : Int), .string f2, .string f3] 25)) hb); clear HB HO; have HB := n0_; have BK := m0_; have HO := n1_; clear n0_ m0_ n1_ hb; have hz0 : wq.cell? ⟨wr.heap.size, 0, none⟩ = some (.int .i64 0) := (blk_cell BK.out 0).trans rfl; have hz1 : wq.cell? ⟨wr.heap.size, 1, none⟩ = some (.int .i64 (n1 : Int)) := (blk_cell BK.out 1).trans rfl; have hz2 : wq.cell? ⟨wr.heap.size, 2, none⟩ = some (.string f2) := (blk_cell BK.out 2).trans rfl; have hz3 : wq.cell? ⟨wr.heap.size, 3, none⟩ = some (.string f3) := (blk_cell BK.out 3).trans rfl) | (go_at_call 80; refine (insR (W0 := w) n1 f2 _ _ (ra_ HO) (bb_ HB) (by omega) HL.out (heap_alloc_new _ _) (by have h_ := Kd.R_ne_new HO.out 0; exact h_)).mono ?_; rintro e w8 ⟨v5, rfl, ho, hb⟩; have n0_ := Aside0.mk hb; have n1_ := Aside0.mk ho; clear HB HO; have HB := n0_; have HO := n1_; clear n0_ n1_ ho hb))
        go_roundg (l1.length - (i + 1))
        case measure => have := HK.out; omega
        case rel => exact ⟨_, i + 1, by first | exact congrArg (Value.int .i64) hwi | rfl | (simp; done) | exact hwi | (simp [hwi]; done), ⟨rfl⟩, ⟨hlt⟩, HM', ⟨(ra_ HO)⟩, ⟨(bb_ HB)⟩⟩
     ·rw [if_neg h0] at hM
      have h0b : (f0 == 0) = false := beq_eq_false_iff_ne.mpr h0
      obtain ⟨s, hs, hN⟩ := Option.bind_eq_some_iff.mp hM
      clear hM
      have hM := hN
      clear hN
      have HS := Aside0.mk hs
      clear hs
      by_cases h1 : (s.toList != f3.toList) = true
      ·rw [if_pos h1] at hM
       have h1e : (s.toList == f3.toList) = false := by simpa using h1
       have h1f : (s.toList != f3.toList) = true := h1
       have h1g : ¬ (s.toList = f3.toList) := by simpa using h1
       clear h1
       simp only [Option.some.injEq, Prod.mk.injEq] at hM
       obtain ⟨rfl, rfl⟩ := hM
       go_wp2_with (go_at_call 50; (with_reducible refine (impl_isDeskEdit.calls k f0 (n1 : Int) f2 f3 true _ HT.out).mono ?_); rintro e wq ⟨rfl, hb⟩; have m0_ := Aside0.mk (blk_below (heap_alloc_new wr (.cells #[.int .i64 f0, .int .i64 (n1 : Int), .string f2, .string f3] 25)) hb); have n0_ := Aside0.mk (bt_ HB hb); have n1_ := Aside0.mk (Kd.R_below (Kd.R_alloc HO.out (.cells #[.int .i64 f0, .int .i64 (n1 : Int), .string f2, .string f3] 25)) hb); clear HB HO; have HB := n0_; have BK := m0_; have HO := n1_; clear n0_ m0_ n1_ hb; have hz0 : wq.cell? ⟨wr.heap.size, 0, none⟩ = some (.int .i64 f0) := (blk_cell BK.out 0).trans rfl; have hz1 : wq.cell? ⟨wr.heap.size, 1, none⟩ = some (.int .i64 (n1 : Int)) := (blk_cell BK.out 1).trans rfl; have hz2 : wq.cell? ⟨wr.heap.size, 2, none⟩ = some (.string f2) := (blk_cell BK.out 2).trans rfl; have hz3 : wq.cell? ⟨wr.heap.size, 3, none⟩ = some (.string f3) := (blk_cell BK.out 3).trans rfl)
       go_region_with (go_at_call 76; (with_reducible refine (impl_itemAt.calls _ _ x (n1 : Int) s _ ?hI HCX.out HS.out).mono ?_); (case hI => exact (by obtain ⟨A_, c_, e_, h_, hC_⟩ := Kd.R_reads HO.out; injection e_ with e1_ e2_ e3_; subst e1_; repeat (first | exact hC_ | (with_reducible first | apply cA_ | apply cN_ | apply cD_)))); rintro e w8 ⟨rfl, ⟨nd, rfl⟩⟩)
       all_goals go_wp2
       all_goals
        go_ret2
        exact ⟨_, by first | rfl | (simp; done), Kd.R_nil _ _ _ _ _, (bb_ HB)⟩
      ·rw [if_neg h1] at hM
       have h1 : (s.toList != f3.toList) = false := by simpa using h1
       have h1e : (s.toList == f3.toList) = true := by simpa using h1
       by_cases h2 : (n1 : Int) < (x.length : Int)
       ·rw [if_pos h2] at hM
        have h3 : IntKind.i64.wrap ((n1 : Int) + 1) = (n1 : Int) + 1 := by have := HL.out; simp [IntKind.wrap, IntKind.bits, IntKind.signed]; omega
        by_cases h4 : f0 = 1
        ·rw [if_pos h4] at hM
         subst h4
         have HM' := Aside0.mk hM
         clear hM HM
         go_wp2_with (go_at_call 50; (with_reducible refine (impl_isDeskEdit.calls k 1 (n1 : Int) f2 f3 true _ HT.out).mono ?_); rintro e wq ⟨rfl, hb⟩; have m0_ := Aside0.mk (blk_below (heap_alloc_new wr (.cells #[.int .i64 1, .int .i64 (n1 : Int), .string f2, .string f3] 25)) hb); have n0_ := Aside0.mk (bt_ HB hb); have n1_ := Aside0.mk (Kd.R_below (Kd.R_alloc HO.out (.cells #[.int .i64 1, .int .i64 (n1 : Int), .string f2, .string f3] 25)) hb); clear HB HO; have HB := n0_; have BK := m0_; have HO := n1_; clear n0_ m0_ n1_ hb; have hz0 : wq.cell? ⟨wr.heap.size, 0, none⟩ = some (.int .i64 1) := (blk_cell BK.out 0).trans rfl; have hz1 : wq.cell? ⟨wr.heap.size, 1, none⟩ = some (.int .i64 (n1 : Int)) := (blk_cell BK.out 1).trans rfl; have hz2 : wq.cell? ⟨wr.heap.size, 2, none⟩ = some (.string f2) := (blk_cell BK.out 2).trans rfl; have hz3 : wq.cell? ⟨wr.heap.size, 3, none⟩ = some (.string f3) := (blk_cell BK.out 3).trans rfl)
         go_region_with (go_at_call 76; (with_reducible refine (impl_itemAt.calls _ _ x (n1 : Int) s _ ?hI HCX.out HS.out).mono ?_); (case hI => exact (by obtain ⟨A_, c_, e_, h_, hC_⟩ := Kd.R_reads HO.out; injection e_ with e1_ e2_ e3_; subst e1_; repeat (first | exact hC_ | (with_reducible first | apply cA_ | apply cN_ | apply cD_)))); rintro e w8 ⟨rfl, ⟨nd, rfl⟩⟩)
         all_goals go_wp2_with (go_at_call 81; refine (delR (W0 := w) n1 (ra_ HO) (bb_ HB) (by omega)).mono ?_; rintro e w9 ⟨v5, rfl, ho, hb⟩; have n0_ := Aside0.mk hb; have n1_ := Aside0.mk ho; clear HB HO; have HB := n0_; have HO := n1_; clear n0_ n1_ ho hb)
         all_goals
          go_roundg (l1.length - (i + 1))
          case measure => have := HK.out; omega
          case rel => exact ⟨_, i + 1, by first | exact congrArg (Value.int .i64) hwi | rfl | (simp; done) | exact hwi | (simp [hwi]; done), ⟨rfl⟩, ⟨hlt⟩, HM', ⟨(ra_ HO)⟩, ⟨(bb_ HB)⟩⟩
        ·rw [if_neg h4] at hM
         have h4b : (f0 == 1) = false := beq_eq_false_iff_ne.mpr h4
         have HM' := Aside0.mk hM
         clear hM HM
         have h2n : n1 < x.length := by omega
         obtain ⟨gr, cg, eg, hbg, hlg, cells, hcells⟩ := Kd.R_form HO.out (by omega)
         injection eg with ea en ec
         subst ea
         subst ec
         have GE := Aside0.mk hbg
         clear hbg hlg hcells en
         go_wp2_with (go_at_call 50; (with_reducible refine (impl_isDeskEdit.calls k f0 (n1 : Int) f2 f3 true _ HT.out).mono ?_); rintro e wq ⟨rfl, hb⟩; have m0_ := Aside0.mk (blk_below (heap_alloc_new wr (.cells #[.int .i64 f0, .int .i64 (n1 : Int), .string f2, .string f3] 25)) hb); have n0_ := Aside0.mk (bt_ HB hb); have n1_ := Aside0.mk (Kd.R_below (Kd.R_alloc HO.out (.cells #[.int .i64 f0, .int .i64 (n1 : Int), .string f2, .string f3] 25)) hb); clear HB HO; have HB := n0_; have BK := m0_; have HO := n1_; clear n0_ m0_ n1_ hb; have hz0 : wq.cell? ⟨wr.heap.size, 0, none⟩ = some (.int .i64 f0) := (blk_cell BK.out 0).trans rfl; have hz1 : wq.cell? ⟨wr.heap.size, 1, none⟩ = some (.int .i64 (n1 : Int)) := (blk_cell BK.out 1).trans rfl; have hz2 : wq.cell? ⟨wr.heap.size, 2, none⟩ = some (.string f2) := (blk_cell BK.out 2).trans rfl; have hz3 : wq.cell? ⟨wr.heap.size, 3, none⟩ = some (.string f3) := (blk_cell BK.out 3).trans rfl; have hs0 := (Kd.R_cell ByteArray.empty HO.out (n1 : Int) (by omega) (by omega)).1; have hs1 := (Kd.R_cell ByteArray.empty HO.out (n1 : Int) (by omega) (by omega)).2; simp only [Int.toNat_natCast] at hs0 hs1)
         go_region_with (go_at_call 76; (with_reducible refine (impl_itemAt.calls _ _ x (n1 : Int) s _ ?hI HCX.out HS.out).mono ?_); (case hI => exact (by obtain ⟨A_, c_, e_, h_, hC_⟩ := Kd.R_reads HO.out; injection e_ with e1_ e2_ e3_; subst e1_; repeat (first | exact hC_ | (with_reducible first | apply cA_ | apply cN_ | apply cD_)))); rintro e w8 ⟨rfl, ⟨nd, rfl⟩⟩)
         all_goals go_wp2
         all_goals
          go_roundg (l1.length - (i + 1))
          case measure => have := HK.out; omega
          case rel => exact ⟨_, i + 1, by first | exact congrArg (Value.int .i64) hwi | rfl | (simp; done) | exact hwi | (simp [hwi]; done), ⟨rfl⟩, ⟨hlt⟩, HM', ⟨(Kd.R_put (ra_ HO) (n1 : Int) f2).1⟩, ⟨below_set (bb_ HB) GE.out⟩⟩
       ·rw [if_neg h2] at hM; exact absurd hM (by simp)
    ·rw [if_neg hL] at hM; exact absurd hM (by simp)
  ·have h3 : madeL k x (l1.drop i) = some (r1, r2) := HM.out
   rw [List.drop_eq_nil_of_le (by omega)] at h3
   simp only [madeL, Option.some.injEq, Prod.mk.injEq] at h3
   obtain ⟨rfl, rfl⟩ := h3
   go_wp2
   go_ret2
   exact ⟨_, by first | rfl | (simp; done), by (with_reducible repeat (first | apply rA_ | apply rN_ | apply rD_)); exact HO.out, (bb_ HB)⟩

end Go.Proofs.Ytmmpnigbfiebbaa.PA
