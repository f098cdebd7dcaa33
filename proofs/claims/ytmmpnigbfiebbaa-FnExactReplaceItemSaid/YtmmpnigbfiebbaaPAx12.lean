-- Written by a program of this session (wip/tools/myprint.py). Not trusted: Lean checks it.
import Derived.Test.YtmmpnigbfiebbaaPAx0
import Derived.Test.YtmmpnigbfiebbaaPAx1
import Derived.Test.YtmmpnigbfiebbaaPAx10
namespace Go.Proofs.Ytmmpnigbfiebbaa.PA
open Go.RowKit Go.Proofs.YtmmpnigbfiebbaaW.PrintWords Go.Proofs.YtmmpnigbfiebbaaW.PrintLast Go.Proofs.YtmmpnigbfiebbaaW.PrintMore
attribute [local go_sem] max2_int min2_int max_two min_two max_three min_three max_four min_four   -- for this text's walks alone
set_option linter.unusedVariables false
set_option linter.unusedSimpArgs false

/-! ### spec_unAt: function 74 -/
def spec_unAt.f (k : Nat) (l0_0 : List ByteArray) (l0_1 : List (S25)) (l0_2 : List (S25)) (a1 : Int) : Option (ByteArray × Bool) := (spec_unNow.f k l0_0 l0_1 l0_2).bind fun t1150 => ((spec_l1In.f a1 0 (wrap64 ((t1150.length : Int) - 1))).bind fun t1153 => (if t1153 = true then (if 0 ≤ a1 then (if a1 < (t1150.length : Int) then (some (rdOf ByteArray.empty t1150 a1, true)) else (none)) else (none)) else (some ((⟨#[]⟩ : ByteArray), false))))
theorem spec_unAt.mono : ∀ a0 a1 a2 a3 k, LeO (spec_unAt.f k a0 a1 a2 a3) (spec_unAt.f (k + 1) a0 a1 a2 a3) := by
 intro a0 a1 a2 a3 k
 unfold spec_unAt.f
 repeat' first
   | (with_reducible exact spec_unNow.mono _ _ _ _)
   | (with_reducible exact LeO.refl _)
   | (with_reducible exact LeO.none _)
   | (with_reducible refine LeO.ite ?_ ?_)
   | (with_reducible refine LeO.bind ?_ (fun _ => ?_))
   | exact LeO.none _
   | refine LeO.ite ?_ ?_
   | refine LeO.bind ?_ (fun _ => ?_)
set_option maxHeartbeats 8000000 in
set_option maxRecDepth 100000 in
theorem spec_unAt.calls (k : Nat) (A0_0 : Option Addr) (c0_0 : Nat) (l0_0 : List ByteArray) (A0_1 : Option Addr) (c0_1 : Nat) (l0_1 : List (S25)) (A0_2 : Option Addr) (c0_2 : Nat) (l0_2 : List (S25)) (a1 : Int) (r1 : ByteArray) (r2 : Bool) (w : World) (hr0_0 : Kd.C Kd.string w A0_0 l0_0.length l0_0) (hc0_0 : l0_0.length ≤ c0_0) (hr0_1 : Kd.C k25 w A0_1 l0_1.length l0_1) (hc0_1 : l0_1.length ≤ c0_1) (hr0_2 : Kd.C k25 w A0_2 l0_2.length l0_2) (hc0_2 : l0_2.length ≤ c0_2) (h : spec_unAt.f k l0_0 l0_1 l0_2 a1 = some (r1, r2)) :
  Calls Try.prog 74 #[.agg #[.slice A0_0 l0_0.length c0_0, .slice A0_1 l0_1.length c0_1, .slice A0_2 l0_2.length c0_2], .int .i64 a1] w fun e w' => e = .returned (.tuple #[.string r1, .bool r2]) ∧ Below w.heap.size w w' := by
 have hu35 := Try.underlying35
 have HR0_0 := Aside0.mk hr0_0
 have HC0_0 := Aside0.mk hc0_0
 clear hr0_0 hc0_0
 have HR0_1 := Aside0.mk hr0_1
 have HC0_1 := Aside0.mk hc0_1
 clear hr0_1 hc0_1
 have HR0_2 := Aside0.mk hr0_2
 have HC0_2 := Aside0.mk hc0_2
 clear hr0_2 hc0_2
 have HB := Aside0.mk (Below.refl w.heap.size w)
 have H : ((spec_unNow.f k l0_0 l0_1 l0_2).bind fun t1150 => ((spec_l1In.f a1 0 (wrap64 ((t1150.length : Int) - 1))).bind fun t1153 => (if t1153 = true then (if 0 ≤ a1 then (if a1 < (t1150.length : Int) then (some (rdOf ByteArray.empty t1150 a1, true)) else (none)) else (none)) else (some ((⟨#[]⟩ : ByteArray), false))))) = some (r1, r2) := h
 clear h
 replace H := Option.bind_eq_some_iff.mp H
 obtain ⟨t1150, A30, H⟩ := H
 try dsimp only at H
 have A3 := Aside0.mk A30
 clear A30
 replace H := Option.bind_eq_some_iff.mp H
 obtain ⟨t1153, A40, H⟩ := H
 try dsimp only at H
 have A4 := Aside0.mk A40
 clear A40
 by_cases c5 : t1153 = true
 ·subst c5
  have H1 : (if 0 ≤ a1 then (if a1 < (t1150.length : Int) then (some (rdOf ByteArray.empty t1150 a1, true)) else (none)) else (none)) = some (r1, r2) := by rw [if_pos rfl] at H; exact H
  clear H
  have H := H1
  clear H1
  by_cases c6 : 0 ≤ a1
  ·rw [if_pos c6] at H
   have c6b0 : decide (0 ≤ a1) = true := decide_eq_true c6
   clear c6
   by_cases c7 : a1 < (t1150.length : Int)
   ·rw [if_pos c7] at H
    have c7b0 : decide (a1 < (t1150.length : Int)) = true := decide_eq_true c7
    clear c7
    simp only [Option.some.injEq, Prod.mk.injEq] at H
    obtain ⟨rfl, rfl⟩ := H
    go_enter Try.func74, Try.ntmps74
    go_wp2_with (first | ((with_reducible refine gate_dst (N := 2) rfl ?_); refine box_event ?hg (N := 2) ?hd (cs := #[.slice A0_0 l0_0.length c0_0, .slice A0_1 l0_1.length c0_1, .slice A0_2 l0_2.length c0_2]) (t := 35) ?hr ?_; (case hd => rfl); (case hg => rfl); (case hr => first | (go_simp; done) | (go_simp; rfl)); intro gb1149 hg w8 hbox hb; have n0_ := Aside0.mk (bt_ HB hb); have n1_ := Aside0.mk (hbox); have n2_ := gz_ hg HB; have n3_ := gz_ hg HB; clear HB; have HB := n0_; have BK1149 := n1_; have GW1149 := n2_; have GE1149 := n3_; clear n0_ n1_ n2_ n3_; clear hb hbox hg; have hcz9_0 := cz0_ BK1149; have hcz9_1 := cz1_ BK1149; have hcz9_2 := cz2_ BK1149; have hfz9_0 := fz_ BK1149 0; have hfz9_1 := fz_ BK1149 1; have hfz9_2 := fz_ BK1149 2) | ((with_reducible refine gate_callee (f := 67) rfl ?_); refine goesL_ (some 8) rfl rfl Try.func67 (by kernel_rfl) rfl #[.agg #[.slice A0_0 l0_0.length c0_0, .slice A0_1 l0_1.length c0_1, .slice A0_2 l0_2.length c0_2]] rfl args_ ?_; (with_reducible refine (spec_unNow.calls k _ _ l0_0 _ _ l0_1 _ _ l0_2 t1150 _ ?side1 ?side2 ?side3 ?side4 ?side5 ?side6 A3.out).mono ?_); (case side1 => exact cb_ HR0_0 HB); (case side2 => exact HC0_0.out); (case side3 => exact cb_ HR0_1 HB); (case side4 => exact HC0_1.out); (case side5 => exact cb_ HR0_2 HB); (case side6 => exact HC0_2.out); rintro e w10 ⟨v1151, rfl, ho0, hb⟩; refine ⟨_, rfl, ?_⟩; have n0_ := Aside0.mk (Kd.R_lower ho0 (below_size (bb1_ HB GE1149))); have n1_ := Aside0.mk (lb_ BK1149 hb); have n2_ := Aside0.mk (below_step (bb1_ HB GE1149) hb); clear BK1149; clear HB; have HO1152 := n0_; have BK1149 := n1_; have HB := n2_; clear n0_ n1_ n2_; (try clear hb); (try clear hb2); (try clear hk); (try clear hi); (try clear ho0); obtain ⟨Ao11, co11, eo11⟩ := Kd.R_slice HO1152.out; subst eo11) | ((with_reducible refine gate_callee (f := 63) rfl ?_); refine goesL_ (some 13) rfl rfl Try.func63 (by kernel_rfl) rfl #[.int .i64 a1, .int .i64 0, .int .i64 (wrap64 ((t1150.length : Int) - 1))] rfl args_ ?_; (with_reducible refine (spec_l1In.calls a1 0 (wrap64 ((t1150.length : Int) - 1)) true _ A4.out).mono ?_); rintro e w' ⟨rfl, ⟨nd, rfl⟩⟩; refine ⟨_, rfl, ?_⟩; have p1154 : 0 ≤ (a1 : Int) := of_decide_eq_true as_; have q1154 : a1 < (t1150.length : Int) := of_decide_eq_true as_; obtain ⟨ad1154, e1154, hx1154_0⟩ := Kd.at_string (Kd.R_reads' HO1152.out).2.2 a1 p1154 q1154; cases e1154; replace p1154 := eq_true p1154; replace q1154 := eq_true q1154))
    go_ret2
    exact ⟨by first | rfl | (simp [errW_none, errW_some] <;> rfl) | (simp [*, errW_none, errW_some] <;> rfl), bb1_ HB GE1149⟩
   ·rw [if_neg c7] at H
    exact absurd H (by simp)
  ·rw [if_neg c6] at H
   exact absurd H (by simp)
 ·replace c5 := Bool.eq_false_iff.mpr c5
  subst c5
  have H1 : (some ((⟨#[]⟩ : ByteArray), false)) = some (r1, r2) := by rw [if_neg (show ¬ (false = true) by decide)] at H; exact H
  clear H
  have H := H1
  clear H1
  simp only [Option.some.injEq, Prod.mk.injEq] at H
  obtain ⟨rfl, rfl⟩ := H
  go_enter Try.func74, Try.ntmps74
  go_wp2_with (first | ((with_reducible refine gate_dst (N := 2) rfl ?_); refine box_event ?hg (N := 2) ?hd (cs := #[.slice A0_0 l0_0.length c0_0, .slice A0_1 l0_1.length c0_1, .slice A0_2 l0_2.length c0_2]) (t := 35) ?hr ?_; (case hd => rfl); (case hg => rfl); (case hr => first | (go_simp; done) | (go_simp; rfl)); intro gb1149 hg w12 hbox hb; have n0_ := Aside0.mk (bt_ HB hb); have n1_ := Aside0.mk (hbox); have n2_ := gz_ hg HB; have n3_ := gz_ hg HB; clear HB; have HB := n0_; have BK1149 := n1_; have GW1149 := n2_; have GE1149 := n3_; clear n0_ n1_ n2_ n3_; clear hb hbox hg; have hcz13_0 := cz0_ BK1149; have hcz13_1 := cz1_ BK1149; have hcz13_2 := cz2_ BK1149; have hfz13_0 := fz_ BK1149 0; have hfz13_1 := fz_ BK1149 1; have hfz13_2 := fz_ BK1149 2) | ((with_reducible refine gate_callee (f := 67) rfl ?_); refine goesL_ (some 8) rfl rfl Try.func67 (by kernel_rfl) rfl #[.agg #[.slice A0_0 l0_0.length c0_0, .slice A0_1 l0_1.length c0_1, .slice A0_2 l0_2.length c0_2]] rfl args_ ?_; (with_reducible refine (spec_unNow.calls k _ _ l0_0 _ _ l0_1 _ _ l0_2 t1150 _ ?side1 ?side2 ?side3 ?side4 ?side5 ?side6 A3.out).mono ?_); (case side1 => exact cb_ HR0_0 HB); (case side2 => exact HC0_0.out); (case side3 => exact cb_ HR0_1 HB); (case side4 => exact HC0_1.out); (case side5 => exact cb_ HR0_2 HB); (case side6 => exact HC0_2.out); rintro e w14 ⟨v1151, rfl, ho0, hb⟩; refine ⟨_, rfl, ?_⟩; have n0_ := Aside0.mk (Kd.R_lower ho0 (below_size (bb1_ HB GE1149))); have n1_ := Aside0.mk (lb_ BK1149 hb); have n2_ := Aside0.mk (below_step (bb1_ HB GE1149) hb); clear BK1149; clear HB; have HO1152 := n0_; have BK1149 := n1_; have HB := n2_; clear n0_ n1_ n2_; (try clear hb); (try clear hb2); (try clear hk); (try clear hi); (try clear ho0); obtain ⟨Ao15, co15, eo15⟩ := Kd.R_slice HO1152.out; subst eo15) | ((with_reducible refine gate_callee (f := 63) rfl ?_); refine goesL_ (some 13) rfl rfl Try.func63 (by kernel_rfl) rfl #[.int .i64 a1, .int .i64 0, .int .i64 (wrap64 ((t1150.length : Int) - 1))] rfl args_ ?_; (with_reducible refine (spec_l1In.calls a1 0 (wrap64 ((t1150.length : Int) - 1)) false _ A4.out).mono ?_); rintro e w' ⟨rfl, ⟨nd, rfl⟩⟩; refine ⟨_, rfl, ?_⟩))
  go_ret2
  exact ⟨by first | rfl | (simp [errW_none, errW_some] <;> rfl) | (simp [*, errW_none, errW_some] <;> rfl), bb1_ HB GE1149⟩

end Go.Proofs.Ytmmpnigbfiebbaa.PA
