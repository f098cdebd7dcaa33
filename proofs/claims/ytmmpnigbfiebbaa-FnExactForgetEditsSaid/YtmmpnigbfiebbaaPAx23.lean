-- Written by a program of this session (wip/tools/myprint.py). Not trusted: Lean checks it.
import Derived.Test.YtmmpnigbfiebbaaPAx0
import Derived.Test.YtmmpnigbfiebbaaPAx3
import Derived.Test.YtmmpnigbfiebbaaPAx4
import Derived.Test.YtmmpnigbfiebbaaPAx5
import Derived.Test.YtmmpnigbfiebbaaPAx7
import Derived.Test.YtmmpnigbfiebbaaPAx22
namespace Go.Proofs.Ytmmpnigbfiebbaa.PA
open Go.RowKit Go.Proofs.YtmmpnigbfiebbaaW.PrintWords Go.Proofs.YtmmpnigbfiebbaaW.PrintLast Go.Proofs.YtmmpnigbfiebbaaW.PrintMore
attribute [local go_sem] max2_int min2_int max_two min_two max_three min_three max_four min_four   -- for this text's walks alone
set_option linter.unusedVariables false
set_option linter.unusedSimpArgs false

/-! ### laws_FnExactForgetEdits: function 10 -/
mutual
def laws_FnExactForgetEdits.j0 : Nat → Int → Bool → Bool → Bool → List ByteArray → List (S23) → List (S23) → List ByteArray → List (S25) → List (S25) → List ByteArray → List (S25) → List (S25) → List ByteArray → List (S25) → List (S25) → Option (Bool)
 | 0, _, _, _, _, _, _, _, _, _, _, _, _, _, _, _, _ => none
 | k + 1, x1, x7, x10, x44, x933000, x933001, x933002, x954000, x954001, x954002, x964000, x964001, x964002, x975000, x975001, x975002 => if x44 = true then (none) else ((laws_toDesk.f k x933000 x933001 x933002).bind fun bt976 => ((laws_eqDesk.f k x964000 x964001 x964002 bt976.1 bt976.2.1 bt976.2.2).bind fun t985 => (if t985 = true then ((laws_markDesk.f k x964000 x964001 x964002 1).bind fun bt986 => (if bt986.1 < 0 then (laws_FnExactForgetEdits.j1 k x1 x7 true x933000 x933001 x933002 x954000 x954001 x954002 x975000 x975001 x975002) else ((laws_eqDesk.f k x975000 x975001 x975002 x954000 x954001 x954002).bind fun t990 => (if t990 = true then (laws_FnExactForgetEdits.j1 k x1 x7 (x10 != x7) x933000 x933001 x933002 x954000 x954001 x954002 x975000 x975001 x975002) else (laws_FnExactForgetEdits.j1 k x1 x7 true x933000 x933001 x933002 x954000 x954001 x954002 x975000 x975001 x975002))))) else (none))))
def laws_FnExactForgetEdits.j1 : Nat → Int → Bool → Bool → List ByteArray → List (S23) → List (S23) → List ByteArray → List (S25) → List (S25) → List ByteArray → List (S25) → List (S25) → Option (Bool)
 | 0, _, _, _, _, _, _, _, _, _, _, _, _ => none
 | k + 1, x1, x7, x65, x933000, x933001, x933002, x954000, x954001, x954002, x975000, x975001, x975002 => if x65 = true then (none) else ((laws_markDesk.f k x975000 x975001 x975002 1).bind fun bt991 => ((laws_heldDesk.f k bt991.2.1 bt991.2.2.1 bt991.2.2.2 1).bind fun t995 => (if t995 < 0 then (none) else (if t995 = bt991.1 then ((laws_toDesk.f k x933000 x933001 x933002).bind fun bt996 => ((impl_ForgetEdits.f k bt996.1 bt996.2.1 bt996.2.2 x1).bind fun bt1005 => ((laws_eqDesk.f k bt1005.1 bt1005.2.1 bt1005.2.2.1 x954000 x954001 x954002).bind fun t1016 => (if t1016 = true then (laws_FnExactForgetEdits.j2 k bt991.1 (bt1005.2.2.2 != x7) bt991.2.1 bt991.2.2.1 bt991.2.2.2) else (laws_FnExactForgetEdits.j2 k bt991.1 true bt991.2.1 bt991.2.2.1 bt991.2.2.2))))) else (none)))))
def laws_FnExactForgetEdits.j2 : Nat → Int → Bool → List ByteArray → List (S25) → List (S25) → Option (Bool)
 | 0, _, _, _, _, _ => none
 | k + 1, x12, x92, x975000, x975001, x975002 => if x92 = true then (none) else ((laws_heldDesk.f k x975000 x975001 x975002 1).bind fun t1017 => (if t1017 < 0 then (none) else (if t1017 = x12 then (some true) else (none))))
end
def laws_FnExactForgetEdits.f (k : Nat) (l0_0 : List ByteArray) (l0_1 : List (S23)) (l0_2 : List (S23)) (a1 : Int) : Option (Bool) := (laws_szDesk.f k l0_0 l0_1 l0_2 1048576).bind fun t933 => (if t933 < 0 then (some true) else ((laws_toDesk.f k l0_0 l0_1 l0_2).bind fun bt934 => ((spec_ForgetEdits.f k bt934.1 bt934.2.1 bt934.2.2 a1).bind fun bt943 => ((laws_toDesk.f k l0_0 l0_1 l0_2).bind fun bt954 => ((impl_ForgetEdits.f k bt954.1 bt954.2.1 bt954.2.2 a1).bind fun bt964 => ((laws_eqDesk.f k bt964.1 bt964.2.1 bt964.2.2.1 bt943.1 bt943.2.1 bt943.2.2.1).bind fun t975 => (if t975 = true then (laws_FnExactForgetEdits.j0 k a1 bt943.2.2.2 bt964.2.2.2 (bt964.2.2.2 != bt943.2.2.2) l0_0 l0_1 l0_2 bt943.1 bt943.2.1 bt943.2.2.1 bt954.1 bt954.2.1 bt954.2.2 bt964.1 bt964.2.1 bt964.2.2.1) else (laws_FnExactForgetEdits.j0 k a1 bt943.2.2.2 bt964.2.2.2 true l0_0 l0_1 l0_2 bt943.1 bt943.2.1 bt943.2.2.1 bt954.1 bt954.2.1 bt954.2.2 bt964.1 bt964.2.1 bt964.2.2.1))))))))
theorem laws_FnExactForgetEdits.mono_l : ∀ k, (∀ y0 y1 y2 y3 y4 y5 y6 y7 y8 y9 y10 y11 y12 y13 y14 y15, LeO (laws_FnExactForgetEdits.j0 k y0 y1 y2 y3 y4 y5 y6 y7 y8 y9 y10 y11 y12 y13 y14 y15) (laws_FnExactForgetEdits.j0 (k + 1) y0 y1 y2 y3 y4 y5 y6 y7 y8 y9 y10 y11 y12 y13 y14 y15)) ∧ (∀ y0 y1 y2 y3 y4 y5 y6 y7 y8 y9 y10 y11, LeO (laws_FnExactForgetEdits.j1 k y0 y1 y2 y3 y4 y5 y6 y7 y8 y9 y10 y11) (laws_FnExactForgetEdits.j1 (k + 1) y0 y1 y2 y3 y4 y5 y6 y7 y8 y9 y10 y11)) ∧ (∀ y0 y1 y2 y3 y4, LeO (laws_FnExactForgetEdits.j2 k y0 y1 y2 y3 y4) (laws_FnExactForgetEdits.j2 (k + 1) y0 y1 y2 y3 y4))
 | 0 => ⟨fun _ _ _ _ _ _ _ _ _ _ _ _ _ _ _ _ r h => by simp [laws_FnExactForgetEdits.j0] at h, fun _ _ _ _ _ _ _ _ _ _ _ _ r h => by simp [laws_FnExactForgetEdits.j1] at h, fun _ _ _ _ _ r h => by simp [laws_FnExactForgetEdits.j2] at h⟩
 | k + 1 => by
  obtain ⟨ih0, ih1, ih2⟩ := laws_FnExactForgetEdits.mono_l k
  refine ⟨?_, ?_, ?_⟩
  ·intro y0 y1 y2 y3 y4 y5 y6 y7 y8 y9 y10 y11 y12 y13 y14 y15
   unfold laws_FnExactForgetEdits.j0
   repeat' first
   | (with_reducible exact ih0 _ _ _ _ _ _ _ _ _ _ _ _ _ _ _ _)
   | (with_reducible exact ih1 _ _ _ _ _ _ _ _ _ _ _ _)
   | (with_reducible exact ih2 _ _ _ _ _)
   | (with_reducible exact impl_ForgetEdits.mono _ _ _ _ _)
   | (with_reducible exact laws_eqDesk.mono _ _ _ _ _ _ _)
   | (with_reducible exact laws_heldDesk.mono _ _ _ _ _)
   | (with_reducible exact laws_markDesk.mono _ _ _ _ _)
   | (with_reducible exact laws_szDesk.mono _ _ _ _ _)
   | (with_reducible exact laws_toDesk.mono _ _ _ _)
   | (with_reducible exact spec_ForgetEdits.mono _ _ _ _ _)
   | (with_reducible exact LeO.refl _)
   | (with_reducible exact LeO.none _)
   | (with_reducible refine LeO.ite ?_ ?_)
   | (with_reducible refine LeO.bind ?_ (fun _ => ?_))
   | exact ih0 _ _ _ _ _ _ _ _ _ _ _ _ _ _ _ _
   | exact ih1 _ _ _ _ _ _ _ _ _ _ _ _
   | exact ih2 _ _ _ _ _
   | exact LeO.none _
   | refine LeO.ite ?_ ?_
   | refine LeO.bind ?_ (fun _ => ?_)
  ·intro y0 y1 y2 y3 y4 y5 y6 y7 y8 y9 y10 y11
   unfold laws_FnExactForgetEdits.j1
   repeat' first
   | (with_reducible exact ih0 _ _ _ _ _ _ _ _ _ _ _ _ _ _ _ _)
   | (with_reducible exact ih1 _ _ _ _ _ _ _ _ _ _ _ _)
   | (with_reducible exact ih2 _ _ _ _ _)
   | (with_reducible exact impl_ForgetEdits.mono _ _ _ _ _)
   | (with_reducible exact laws_eqDesk.mono _ _ _ _ _ _ _)
   | (with_reducible exact laws_heldDesk.mono _ _ _ _ _)
   | (with_reducible exact laws_markDesk.mono _ _ _ _ _)
   | (with_reducible exact laws_szDesk.mono _ _ _ _ _)
   | (with_reducible exact laws_toDesk.mono _ _ _ _)
   | (with_reducible exact spec_ForgetEdits.mono _ _ _ _ _)
   | (with_reducible exact LeO.refl _)
   | (with_reducible exact LeO.none _)
   | (with_reducible refine LeO.ite ?_ ?_)
   | (with_reducible refine LeO.bind ?_ (fun _ => ?_))
   | exact ih0 _ _ _ _ _ _ _ _ _ _ _ _ _ _ _ _
   | exact ih1 _ _ _ _ _ _ _ _ _ _ _ _
   | exact ih2 _ _ _ _ _
   | exact LeO.none _
   | refine LeO.ite ?_ ?_
   | refine LeO.bind ?_ (fun _ => ?_)
  ·intro y0 y1 y2 y3 y4
   unfold laws_FnExactForgetEdits.j2
   repeat' first
   | (with_reducible exact ih0 _ _ _ _ _ _ _ _ _ _ _ _ _ _ _ _)
   | (with_reducible exact ih1 _ _ _ _ _ _ _ _ _ _ _ _)
   | (with_reducible exact ih2 _ _ _ _ _)
   | (with_reducible exact impl_ForgetEdits.mono _ _ _ _ _)
   | (with_reducible exact laws_eqDesk.mono _ _ _ _ _ _ _)
   | (with_reducible exact laws_heldDesk.mono _ _ _ _ _)
   | (with_reducible exact laws_markDesk.mono _ _ _ _ _)
   | (with_reducible exact laws_szDesk.mono _ _ _ _ _)
   | (with_reducible exact laws_toDesk.mono _ _ _ _)
   | (with_reducible exact spec_ForgetEdits.mono _ _ _ _ _)
   | (with_reducible exact LeO.refl _)
   | (with_reducible exact LeO.none _)
   | (with_reducible refine LeO.ite ?_ ?_)
   | (with_reducible refine LeO.bind ?_ (fun _ => ?_))
   | exact ih0 _ _ _ _ _ _ _ _ _ _ _ _ _ _ _ _
   | exact ih1 _ _ _ _ _ _ _ _ _ _ _ _
   | exact ih2 _ _ _ _ _
   | exact LeO.none _
   | refine LeO.ite ?_ ?_
   | refine LeO.bind ?_ (fun _ => ?_)
theorem laws_FnExactForgetEdits.mono : ∀ a0 a1 a2 a3 k, LeO (laws_FnExactForgetEdits.f k a0 a1 a2 a3) (laws_FnExactForgetEdits.f (k + 1) a0 a1 a2 a3) := by
 intro a0 a1 a2 a3 k
 obtain ⟨ih0, ih1, ih2⟩ := laws_FnExactForgetEdits.mono_l k
 unfold laws_FnExactForgetEdits.f
 repeat' first
   | (with_reducible exact ih0 _ _ _ _ _ _ _ _ _ _ _ _ _ _ _ _)
   | (with_reducible exact ih1 _ _ _ _ _ _ _ _ _ _ _ _)
   | (with_reducible exact ih2 _ _ _ _ _)
   | (with_reducible exact impl_ForgetEdits.mono _ _ _ _ _)
   | (with_reducible exact laws_eqDesk.mono _ _ _ _ _ _ _)
   | (with_reducible exact laws_heldDesk.mono _ _ _ _ _)
   | (with_reducible exact laws_markDesk.mono _ _ _ _ _)
   | (with_reducible exact laws_szDesk.mono _ _ _ _ _)
   | (with_reducible exact laws_toDesk.mono _ _ _ _)
   | (with_reducible exact spec_ForgetEdits.mono _ _ _ _ _)
   | (with_reducible exact LeO.refl _)
   | (with_reducible exact LeO.none _)
   | (with_reducible refine LeO.ite ?_ ?_)
   | (with_reducible refine LeO.bind ?_ (fun _ => ?_))
   | exact ih0 _ _ _ _ _ _ _ _ _ _ _ _ _ _ _ _
   | exact ih1 _ _ _ _ _ _ _ _ _ _ _ _
   | exact ih2 _ _ _ _ _
   | exact LeO.none _
   | refine LeO.ite ?_ ?_
   | refine LeO.bind ?_ (fun _ => ?_)
set_option maxHeartbeats 8000000 in
set_option maxRecDepth 100000 in
theorem laws_FnExactForgetEdits.calls (k : Nat) (A0_0 : Option Addr) (c0_0 : Nat) (l0_0 : List ByteArray) (A0_1 : Option Addr) (c0_1 : Nat) (l0_1 : List (S23)) (A0_2 : Option Addr) (c0_2 : Nat) (l0_2 : List (S23)) (a1 : Int) (r : Bool) (w : World) (hr0_0 : Kd.C Kd.string w A0_0 l0_0.length l0_0) (hc0_0 : l0_0.length ≤ c0_0) (hr0_1 : Kd.C k23 w A0_1 l0_1.length l0_1) (hc0_1 : l0_1.length ≤ c0_1) (hr0_2 : Kd.C k23 w A0_2 l0_2.length l0_2) (hc0_2 : l0_2.length ≤ c0_2) (h : laws_FnExactForgetEdits.f k l0_0 l0_1 l0_2 a1 = some r) :
  Calls Try.prog 10 #[.agg #[.slice A0_0 l0_0.length c0_0, .slice A0_1 l0_1.length c0_1, .slice A0_2 l0_2.length c0_2], .int .i64 a1] w fun e w' => e = .returned (.bool r) ∧ Below w.heap.size w w' := by
 have hu45 := Try.underlying45
 have hu35 := Try.underlying35
 have HR0_0 := Aside0.mk hr0_0
 have HC0_0 := Aside0.mk hc0_0
 clear hr0_0 hc0_0
 have HR0_1 := Aside0.mk hr0_1
 have HC0_1 := Aside0.mk hc0_1
 clear hr0_1 hc0_1
 have HR0_2 := Aside0.mk hr0_2
 have HC0_2 := Aside0.mk hc0_2
 clear hr0_2 hc0_2
 have HB := Aside0.mk (Below.refl w.heap.size w)
 have H : ((laws_szDesk.f k l0_0 l0_1 l0_2 1048576).bind fun t933 => (if t933 < 0 then (some true) else ((laws_toDesk.f k l0_0 l0_1 l0_2).bind fun bt934 => ((spec_ForgetEdits.f k bt934.1 bt934.2.1 bt934.2.2 a1).bind fun bt943 => ((laws_toDesk.f k l0_0 l0_1 l0_2).bind fun bt954 => ((impl_ForgetEdits.f k bt954.1 bt954.2.1 bt954.2.2 a1).bind fun bt964 => ((laws_eqDesk.f k bt964.1 bt964.2.1 bt964.2.2.1 bt943.1 bt943.2.1 bt943.2.2.1).bind fun t975 => (if t975 = true then (laws_FnExactForgetEdits.j0 k a1 bt943.2.2.2 bt964.2.2.2 (bt964.2.2.2 != bt943.2.2.2) l0_0 l0_1 l0_2 bt943.1 bt943.2.1 bt943.2.2.1 bt954.1 bt954.2.1 bt954.2.2 bt964.1 bt964.2.1 bt964.2.2.1) else (laws_FnExactForgetEdits.j0 k a1 bt943.2.2.2 bt964.2.2.2 true l0_0 l0_1 l0_2 bt943.1 bt943.2.1 bt943.2.2.1 bt954.1 bt954.2.1 bt954.2.2 bt964.1 bt964.2.1 bt964.2.2.1))))))))) = some r := h
 clear h
 replace H := Option.bind_eq_some_iff.mp H
 obtain ⟨t933, A30, H⟩ := H
 try dsimp only at H
 have A3 := Aside0.mk A30
 clear A30
 by_cases c4 : t933 < 0
 ·rw [if_pos c4] at H
  have c4b0 : decide (t933 < 0) = true := decide_eq_true c4
  clear c4
  obtain rfl := Option.some.inj H
  go_enter Try.func10, Try.ntmps10
  go_wp2_with (first | ((with_reducible refine gate_dst (N := 2) rfl ?_); refine box_event ?hg (N := 2) ?hd (cs := #[.slice A0_0 l0_0.length c0_0, .slice A0_1 l0_1.length c0_1, .slice A0_2 l0_2.length c0_2]) (t := 45) ?hr ?_; (case hd => rfl); (case hg => rfl); (case hr => first | (go_simp; done) | (go_simp; rfl)); intro gb932 hg w5 hbox hb; have n0_ := Aside0.mk (bt_ HB hb); have n1_ := Aside0.mk (hbox); have n2_ := Aside0.mk ((by rw [hg]; exact (bz_ HB) : w.heap.size ≤ gb932)); have n3_ := Aside0.mk ((by rw [hg]; exact (bz_ HB) : w.heap.size ≤ gb932)); clear HB; have HB := n0_; have BK932 := n1_; have GW932 := n2_; have GE932 := n3_; clear n0_ n1_ n2_ n3_; clear hb hbox hg; have hcz6_0 : w5.cell? ⟨gb932, 0, none⟩ = some (.slice A0_0 l0_0.length c0_0) := (blk_cell BK932.out 0).trans rfl; have hcz6_1 : w5.cell? ⟨gb932, 1, none⟩ = some (.slice A0_1 l0_1.length c0_1) := (blk_cell BK932.out 1).trans rfl; have hcz6_2 : w5.cell? ⟨gb932, 2, none⟩ = some (.slice A0_2 l0_2.length c0_2) := (blk_cell BK932.out 2).trans rfl; have hfz6_0 := blk_frozen BK932.out 0; have hfz6_1 := blk_frozen BK932.out 1; have hfz6_2 := blk_frozen BK932.out 2) | ((with_reducible refine gate_callee (f := 28) rfl ?_); refine goesL_ (some 18) rfl rfl Try.func28 (by kernel_rfl) rfl #[.agg #[.slice A0_0 l0_0.length c0_0, .slice A0_1 l0_1.length c0_1, .slice A0_2 l0_2.length c0_2], .int .i64 1048576] rfl args_ ?_; (with_reducible refine (laws_szDesk.calls k _ _ l0_0 _ _ l0_1 _ _ l0_2 1048576 t933 _ ?side1 ?side2 ?side3 ?side4 ?side5 ?side6 A3.out).mono ?_); (case side1 => repeat (first | exact (Kd.C_below HR0_0.out HB.out) | (with_reducible first | apply cA_ | apply cN_ | apply cD_))); (case side2 => exact HC0_0.out); (case side3 => repeat (first | exact (Kd.C_below HR0_1.out HB.out) | (with_reducible first | apply cA_ | apply cN_ | apply cD_))); (case side4 => exact HC0_1.out); (case side5 => repeat (first | exact (Kd.C_below HR0_2.out HB.out) | (with_reducible first | apply cA_ | apply cN_ | apply cD_))); (case side6 => exact HC0_2.out); rintro e w7 ⟨rfl, hb⟩; refine ⟨_, rfl, ?_⟩; have n0_ := Aside0.mk (lb_ BK932 hb); have n1_ := Aside0.mk (below_step (bb1_ HB GE932) hb); clear BK932; clear HB; have BK932 := n0_; have HB := n1_; clear n0_ n1_; (try clear hb); (try clear hb2); (try clear hk); (try clear hi)))
  go_ret
  exact ⟨by first | rfl | (simp [errW_none, errW_some] <;> rfl) | (simp [*, errW_none, errW_some] <;> rfl), bb1_ HB GE932⟩
 ·rw [if_neg c4] at H
  have c4b0 : decide (t933 < 0) = false := decide_eq_false c4
  clear c4
  replace H := Option.bind_eq_some_iff.mp H
  obtain ⟨⟨t934, t937, t940⟩, A80, H⟩ := H
  try dsimp only at H
  have A8 := Aside0.mk A80
  clear A80
  replace H := Option.bind_eq_some_iff.mp H
  obtain ⟨⟨t943, t946, t949, t952⟩, A90, H⟩ := H
  try dsimp only at H
  have A9 := Aside0.mk A90
  clear A90
  replace H := Option.bind_eq_some_iff.mp H
  obtain ⟨⟨t954, t957, t960⟩, A100, H⟩ := H
  try dsimp only at H
  have A10 := Aside0.mk A100
  clear A100
  replace H := Option.bind_eq_some_iff.mp H
  obtain ⟨⟨t964, t967, t970, t973⟩, A110, H⟩ := H
  try dsimp only at H
  have A11 := Aside0.mk A110
  clear A110
  have HC12 := Aside0.mk H
  clear H
  go_enter Try.func10, Try.ntmps10
  go_upto_region 8 with (first | ((with_reducible refine gate_dst (N := 2) rfl ?_); refine box_event ?hg (N := 2) ?hd (cs := #[.slice A0_0 l0_0.length c0_0, .slice A0_1 l0_1.length c0_1, .slice A0_2 l0_2.length c0_2]) (t := 45) ?hr ?_; (case hd => rfl); (case hg => rfl); (case hr => first | (go_simp; done) | (go_simp; rfl)); intro gb932 hg w13 hbox hb; have n0_ := Aside0.mk (bt_ HB hb); have n1_ := Aside0.mk (hbox); have n2_ := Aside0.mk ((by rw [hg]; exact (bz_ HB) : w.heap.size ≤ gb932)); have n3_ := Aside0.mk ((by rw [hg]; exact (bz_ HB) : w.heap.size ≤ gb932)); clear HB; have HB := n0_; have BK932 := n1_; have GW932 := n2_; have GE932 := n3_; clear n0_ n1_ n2_ n3_; clear hb hbox hg; have hcz14_0 : w13.cell? ⟨gb932, 0, none⟩ = some (.slice A0_0 l0_0.length c0_0) := (blk_cell BK932.out 0).trans rfl; have hcz14_1 : w13.cell? ⟨gb932, 1, none⟩ = some (.slice A0_1 l0_1.length c0_1) := (blk_cell BK932.out 1).trans rfl; have hcz14_2 : w13.cell? ⟨gb932, 2, none⟩ = some (.slice A0_2 l0_2.length c0_2) := (blk_cell BK932.out 2).trans rfl; have hfz14_0 := blk_frozen BK932.out 0; have hfz14_1 := blk_frozen BK932.out 1; have hfz14_2 := blk_frozen BK932.out 2) | ((with_reducible refine gate_callee (f := 28) rfl ?_); refine goesL_ (some 18) rfl rfl Try.func28 (by kernel_rfl) rfl #[.agg #[.slice A0_0 l0_0.length c0_0, .slice A0_1 l0_1.length c0_1, .slice A0_2 l0_2.length c0_2], .int .i64 1048576] rfl args_ ?_; (with_reducible refine (laws_szDesk.calls k _ _ l0_0 _ _ l0_1 _ _ l0_2 1048576 t933 _ ?side1 ?side2 ?side3 ?side4 ?side5 ?side6 A3.out).mono ?_); (case side1 => repeat (first | exact (Kd.C_below HR0_0.out HB.out) | (with_reducible first | apply cA_ | apply cN_ | apply cD_))); (case side2 => exact HC0_0.out); (case side3 => repeat (first | exact (Kd.C_below HR0_1.out HB.out) | (with_reducible first | apply cA_ | apply cN_ | apply cD_))); (case side4 => exact HC0_1.out); (case side5 => repeat (first | exact (Kd.C_below HR0_2.out HB.out) | (with_reducible first | apply cA_ | apply cN_ | apply cD_))); (case side6 => exact HC0_2.out); rintro e w15 ⟨rfl, hb⟩; refine ⟨_, rfl, ?_⟩; have n0_ := Aside0.mk (lb_ BK932 hb); have n1_ := Aside0.mk (below_step (bb1_ HB GE932) hb); clear BK932; clear HB; have BK932 := n0_; have HB := n1_; clear n0_ n1_; (try clear hb); (try clear hb2); (try clear hk); (try clear hi); have hcz16_0 : w15.cell? ⟨gb932, 0, none⟩ = some (.slice A0_0 l0_0.length c0_0) := (blk_cell BK932.out 0).trans rfl; have hcz16_1 : w15.cell? ⟨gb932, 1, none⟩ = some (.slice A0_1 l0_1.length c0_1) := (blk_cell BK932.out 1).trans rfl; have hcz16_2 : w15.cell? ⟨gb932, 2, none⟩ = some (.slice A0_2 l0_2.length c0_2) := (blk_cell BK932.out 2).trans rfl; have hfz16_0 := blk_frozen BK932.out 0; have hfz16_1 := blk_frozen BK932.out 1; have hfz16_2 := blk_frozen BK932.out 2) | ((with_reducible refine gate_callee (f := 30) rfl ?_); refine goesL_ (some 23) rfl rfl Try.func30 (by kernel_rfl) rfl #[.agg #[.slice A0_0 l0_0.length c0_0, .slice A0_1 l0_1.length c0_1, .slice A0_2 l0_2.length c0_2]] rfl args_ ?_; (with_reducible refine (laws_toDesk.calls k _ _ l0_0 _ _ l0_1 _ _ l0_2 t934 t937 t940 _ ?side1 ?side2 ?side3 ?side4 ?side5 ?side6 A8.out).mono ?_); (case side1 => repeat (first | exact (Kd.C_below HR0_0.out HB.out) | (with_reducible first | apply cA_ | apply cN_ | apply cD_))); (case side2 => exact HC0_0.out); (case side3 => repeat (first | exact (Kd.C_below HR0_1.out HB.out) | (with_reducible first | apply cA_ | apply cN_ | apply cD_))); (case side4 => exact HC0_1.out); (case side5 => repeat (first | exact (Kd.C_below HR0_2.out HB.out) | (with_reducible first | apply cA_ | apply cN_ | apply cD_))); (case side6 => exact HC0_2.out); rintro e w17 ⟨v935, v938, v941, rfl, ho0, ho1, ho2, hb⟩; refine ⟨_, rfl, ?_⟩; have n0_ := Aside0.mk (Kd.R_lower ho0 (below_size (bb1_ HB GE932))); have n1_ := Aside0.mk (Kd.R_lower ho1 (below_size (bb1_ HB GE932))); have n2_ := Aside0.mk (Kd.R_lower ho2 (below_size (bb1_ HB GE932))); have n3_ := Aside0.mk (lb_ BK932 hb); have n4_ := Aside0.mk (below_step (bb1_ HB GE932) hb); clear BK932; clear HB; have HO936 := n0_; have HO939 := n1_; have HO942 := n2_; have BK932 := n3_; have HB := n4_; clear n0_ n1_ n2_ n3_ n4_; (try clear hb); (try clear hb2); (try clear hk); (try clear hi); (try clear ho0); (try clear ho1); (try clear ho2); obtain ⟨Ao18, co18, eo18⟩ := Kd.R_slice HO936.out; subst eo18; obtain ⟨Ao19, co19, eo19⟩ := Kd.R_slice HO939.out; subst eo19; obtain ⟨Ao20, co20, eo20⟩ := Kd.R_slice HO942.out; subst eo20) | ((with_reducible refine gate_callee (f := 41) rfl ?_); refine goesL_ (some 25) rfl rfl Try.func41 (by kernel_rfl) rfl #[.agg #[.slice Ao18 t934.length co18, .slice Ao19 t937.length co19, .slice Ao20 t940.length co20], .int .i64 a1] rfl args_ ?_; (with_reducible refine (spec_ForgetEdits.calls k _ _ t934 _ _ t937 _ _ t940 a1 t943 t946 t949 t952 _ ?side1 ?side2 ?side3 ?side4 ?side5 ?side6 A9.out).mono ?_); (case side1 => repeat (first | exact (Kd.R_reads' HO936.out).2.2 | (with_reducible first | apply cA_ | apply cN_ | apply cD_))); (case side2 => exact (Kd.R_reads' HO936.out).2.1); (case side3 => repeat (first | exact (Kd.R_reads' HO939.out).2.2 | (with_reducible first | apply cA_ | apply cN_ | apply cD_))); (case side4 => exact (Kd.R_reads' HO939.out).2.1); (case side5 => repeat (first | exact (Kd.R_reads' HO942.out).2.2 | (with_reducible first | apply cA_ | apply cN_ | apply cD_))); (case side6 => exact (Kd.R_reads' HO942.out).2.1); rintro e w21 ⟨v944, v947, v950, rfl, ho0, ho1, ho2, hb⟩; refine ⟨_, rfl, ?_⟩; have n0_ := Aside0.mk (Kd.R_elder' (ra_ HO936) (Kd.R_base ho0) hb); have n1_ := Aside0.mk (Kd.R_mono (Kd.R_told (Kd.R_told (Kd.R_old (ra_ HO939) hb) (Kd.R_base ho1)) (Kd.R_base ho2)) (fun _ h_ => h_.1)); have n2_ := Aside0.mk (Kd.R_mono (Kd.R_told (Kd.R_told (Kd.R_old (ra_ HO942) hb) (Kd.R_base ho1)) (Kd.R_base ho2)) (fun _ h_ => h_.1)); have n3_ := Aside0.mk (Kd.R_lower (Kd.R_new' ho0 (Kd.R_lt (ra_ HO936))) (below_size (bb1_ HB GE932))); have n4_ := Aside0.mk (Kd.R_lower (Kd.R_new' (Kd.R_new' ho1 (Kd.R_lt (ra_ HO939))) (Kd.R_lt (ra_ HO942))) (below_size (bb1_ HB GE932))); have n5_ := Aside0.mk (Kd.R_lower (Kd.R_new' (Kd.R_new' ho2 (Kd.R_lt (ra_ HO939))) (Kd.R_lt (ra_ HO942))) (below_size (bb1_ HB GE932))); have n6_ := Aside0.mk (lb_ BK932 hb); have n7_ := Aside0.mk (below_step (bb1_ HB GE932) hb); clear HO936; clear HO939; clear HO942; clear BK932; clear HB; have HO936 := n0_; have HO939 := n1_; have HO942 := n2_; have HO945 := n3_; have HO948 := n4_; have HO951 := n5_; have BK932 := n6_; have HB := n7_; clear n0_ n1_ n2_ n3_ n4_ n5_ n6_ n7_; (try clear hb); (try clear hb2); (try clear hk); (try clear hi); (try clear ho0); (try clear ho1); (try clear ho2)) | ((with_reducible refine gate_dst (N := 6) rfl ?_); refine box_event ?hg (N := 6) ?hd (cs := #[.slice none 0 0, .slice none 0 0, .slice none 0 0]) (t := 35) ?hr ?_; (case hd => rfl); (case hg => rfl); (case hr => first | (go_simp; done) | (go_simp; rfl)); intro gb953 hg w22 hbox hb; have n0_ := Aside0.mk (Kd.R_below (ra_ HO936) hb); have n1_ := Aside0.mk (Kd.R_below (ra_ HO939) hb); have n2_ := Aside0.mk (Kd.R_below (ra_ HO942) hb); have n3_ := Aside0.mk (Kd.R_below (ra_ HO945) hb); have n4_ := Aside0.mk (Kd.R_below (ra_ HO948) hb); have n5_ := Aside0.mk (Kd.R_below (ra_ HO951) hb); have n6_ := Aside0.mk (lb_ BK932 hb); have n7_ := Aside0.mk (below_step (bb1_ HB GE932) hb); have n8_ := Aside0.mk (hbox); have n9_ := Aside0.mk ((by rw [hg]; exact (below_size (bb1_ HB GE932)) : w.heap.size ≤ gb953)); have n10_ := Aside0.mk ((by rw [hg]; exact (below_size (bb1_ HB GE932)) : w.heap.size ≤ gb953)); have n11_ := Aside0.mk ((by rw [hg]; exact Nat.ne_of_lt (blk_lt (g := gb932) (o := .cells #[.slice A0_0 l0_0.length c0_0, .slice A0_1 l0_1.length c0_1, .slice A0_2 l0_2.length c0_2] 45 (0, 0)) (la_ BK932)) : gb932 ≠ gb953)); have n12_ := Aside0.mk ((by rw [hg]; exact Nat.ne_of_gt (blk_lt (g := gb932) (o := .cells #[.slice A0_0 l0_0.length c0_0, .slice A0_1 l0_1.length c0_1, .slice A0_2 l0_2.length c0_2] 45 (0, 0)) (la_ BK932)) : gb953 ≠ gb932)); clear HO936; clear HO939; clear HO942; clear HO945; clear HO948; clear HO951; clear BK932; clear HB; have HO936 := n0_; have HO939 := n1_; have HO942 := n2_; have HO945 := n3_; have HO948 := n4_; have HO951 := n5_; have BK932 := n6_; have HB := n7_; have BK953 := n8_; have GW953 := n9_; have GE953 := n10_; have NB932_953 := n11_; have NB953_932 := n12_; clear n0_ n1_ n2_ n3_ n4_ n5_ n6_ n7_ n8_ n9_ n10_ n11_ n12_; clear hb hbox hg; obtain ⟨Ao23, co23, eo23⟩ := Kd.R_slice HO945.out; subst eo23; have hnb24 := NB953_932.out; have hnc24 := NB932_953.out; have hcz25_0 : w22.cell? ⟨gb953, 0, none⟩ = some (.slice none 0 0) := (blk_cell BK953.out 0).trans rfl; have hcz25_1 : w22.cell? ⟨gb953, 1, none⟩ = some (.slice none 0 0) := (blk_cell BK953.out 1).trans rfl; have hcz25_2 : w22.cell? ⟨gb953, 2, none⟩ = some (.slice none 0 0) := (blk_cell BK953.out 2).trans rfl; have hfz25_0 := blk_frozen BK953.out 0; have hfz25_1 := blk_frozen BK953.out 1; have hfz25_2 := blk_frozen BK953.out 2; obtain ⟨Ao26, co26, eo26⟩ := Kd.R_slice HO948.out; subst eo26; obtain ⟨Ao27, co27, eo27⟩ := Kd.R_slice HO951.out; subst eo27; have hcz28_0 : w22.cell? ⟨gb932, 0, none⟩ = some (.slice A0_0 l0_0.length c0_0) := (blk_cell BK932.out 0).trans rfl; have hcz28_1 : w22.cell? ⟨gb932, 1, none⟩ = some (.slice A0_1 l0_1.length c0_1) := (blk_cell BK932.out 1).trans rfl; have hcz28_2 : w22.cell? ⟨gb932, 2, none⟩ = some (.slice A0_2 l0_2.length c0_2) := (blk_cell BK932.out 2).trans rfl; have hfz28_0 := blk_frozen BK932.out 0; have hfz28_1 := blk_frozen BK932.out 1; have hfz28_2 := blk_frozen BK932.out 2) | ((with_reducible refine gate_callee (f := 30) rfl ?_); refine goesL_ (some 29) rfl rfl Try.func30 (by kernel_rfl) rfl #[.agg #[.slice A0_0 l0_0.length c0_0, .slice A0_1 l0_1.length c0_1, .slice A0_2 l0_2.length c0_2]] rfl args_ ?_; (with_reducible refine (laws_toDesk.calls k _ _ l0_0 _ _ l0_1 _ _ l0_2 t954 t957 t960 _ ?side1 ?side2 ?side3 ?side4 ?side5 ?side6 A10.out).mono ?_); (case side1 => exact Kd.C_below HR0_0.out (bb2_ HB GE932 GE953)); (case side2 => exact HC0_0.out); (case side3 => exact Kd.C_below HR0_1.out (bb2_ HB GE932 GE953)); (case side4 => exact HC0_1.out); (case side5 => exact Kd.C_below HR0_2.out (bb2_ HB GE932 GE953)); (case side6 => exact HC0_2.out); rintro e w29 ⟨v955, v958, v961, rfl, ho0, ho1, ho2, hb⟩; refine ⟨_, rfl, ?_⟩; have n0_ := Aside0.mk (Kd.R_elder' (rf_ (fm_ (fr_ (fr_ (fr_ (ft_ HO936 BK953) 0 (.slice Ao23 t943.length co23)) 1 (.slice Ao26 t946.length co26)) 2 (.slice Ao27 t949.length co27)))) (Kd.R_base ho0) hb); have n1_ := Aside0.mk (Kd.R_mono (Kd.R_told (Kd.R_told (Kd.R_old (rf_ (fm_ (fr_ (fr_ (fr_ (ft_ HO939 BK953) 0 (.slice Ao23 t943.length co23)) 1 (.slice Ao26 t946.length co26)) 2 (.slice Ao27 t949.length co27)))) hb) (Kd.R_base ho1)) (Kd.R_base ho2)) (fun _ h_ => h_.1)); have n2_ := Aside0.mk (Kd.R_mono (Kd.R_told (Kd.R_told (Kd.R_old (rf_ (fm_ (fr_ (fr_ (fr_ (ft_ HO942 BK953) 0 (.slice Ao23 t943.length co23)) 1 (.slice Ao26 t946.length co26)) 2 (.slice Ao27 t949.length co27)))) hb) (Kd.R_base ho1)) (Kd.R_base ho2)) (fun _ h_ => h_.1)); have n3_ := Aside0.mk (Kd.R_elder' (rf_ (fm_ (fr_ (fr_ (fr_ (ft_ HO945 BK953) 0 (.slice Ao23 t943.length co23)) 1 (.slice Ao26 t946.length co26)) 2 (.slice Ao27 t949.length co27)))) (Kd.R_base ho0) hb); have n4_ := Aside0.mk (Kd.R_mono (Kd.R_told (Kd.R_told (Kd.R_old (rf_ (fm_ (fr_ (fr_ (fr_ (ft_ HO948 BK953) 0 (.slice Ao23 t943.length co23)) 1 (.slice Ao26 t946.length co26)) 2 (.slice Ao27 t949.length co27)))) hb) (Kd.R_base ho1)) (Kd.R_base ho2)) (fun _ h_ => h_.1)); have n5_ := Aside0.mk (Kd.R_mono (Kd.R_told (Kd.R_told (Kd.R_old (rf_ (fm_ (fr_ (fr_ (fr_ (ft_ HO951 BK953) 0 (.slice Ao23 t943.length co23)) 1 (.slice Ao26 t946.length co26)) 2 (.slice Ao27 t949.length co27)))) hb) (Kd.R_base ho1)) (Kd.R_base ho2)) (fun _ h_ => h_.1)); have n6_ := Aside0.mk (Kd.R_lower (Kd.R_new' (Kd.R_new' ho0 (Kd.R_lt (rf_ (fm_ (fr_ (fr_ (fr_ (ft_ HO936 BK953) 0 (.slice Ao23 t943.length co23)) 1 (.slice Ao26 t946.length co26)) 2 (.slice Ao27 t949.length co27)))))) (Kd.R_lt (rf_ (fm_ (fr_ (fr_ (fr_ (ft_ HO945 BK953) 0 (.slice Ao23 t943.length co23)) 1 (.slice Ao26 t946.length co26)) 2 (.slice Ao27 t949.length co27)))))) (below_size (bb2_ HB GE932 GE953))); have n7_ := Aside0.mk (Kd.R_lower (Kd.R_new' (Kd.R_new' (Kd.R_new' (Kd.R_new' ho1 (Kd.R_lt (rf_ (fm_ (fr_ (fr_ (fr_ (ft_ HO939 BK953) 0 (.slice Ao23 t943.length co23)) 1 (.slice Ao26 t946.length co26)) 2 (.slice Ao27 t949.length co27)))))) (Kd.R_lt (rf_ (fm_ (fr_ (fr_ (fr_ (ft_ HO942 BK953) 0 (.slice Ao23 t943.length co23)) 1 (.slice Ao26 t946.length co26)) 2 (.slice Ao27 t949.length co27)))))) (Kd.R_lt (rf_ (fm_ (fr_ (fr_ (fr_ (ft_ HO948 BK953) 0 (.slice Ao23 t943.length co23)) 1 (.slice Ao26 t946.length co26)) 2 (.slice Ao27 t949.length co27)))))) (Kd.R_lt (rf_ (fm_ (fr_ (fr_ (fr_ (ft_ HO951 BK953) 0 (.slice Ao23 t943.length co23)) 1 (.slice Ao26 t946.length co26)) 2 (.slice Ao27 t949.length co27)))))) (below_size (bb2_ HB GE932 GE953))); have n8_ := Aside0.mk (Kd.R_lower (Kd.R_new' (Kd.R_new' (Kd.R_new' (Kd.R_new' ho2 (Kd.R_lt (rf_ (fm_ (fr_ (fr_ (fr_ (ft_ HO939 BK953) 0 (.slice Ao23 t943.length co23)) 1 (.slice Ao26 t946.length co26)) 2 (.slice Ao27 t949.length co27)))))) (Kd.R_lt (rf_ (fm_ (fr_ (fr_ (fr_ (ft_ HO942 BK953) 0 (.slice Ao23 t943.length co23)) 1 (.slice Ao26 t946.length co26)) 2 (.slice Ao27 t949.length co27)))))) (Kd.R_lt (rf_ (fm_ (fr_ (fr_ (fr_ (ft_ HO948 BK953) 0 (.slice Ao23 t943.length co23)) 1 (.slice Ao26 t946.length co26)) 2 (.slice Ao27 t949.length co27)))))) (Kd.R_lt (rf_ (fm_ (fr_ (fr_ (fr_ (ft_ HO951 BK953) 0 (.slice Ao23 t943.length co23)) 1 (.slice Ao26 t946.length co26)) 2 (.slice Ao27 t949.length co27)))))) (below_size (bb2_ HB GE932 GE953))); have n9_ := Aside0.mk (blk_below (g := gb932) (o := .cells #[.slice A0_0 l0_0.length c0_0, .slice A0_1 l0_1.length c0_1, .slice A0_2 l0_2.length c0_2] 45 (0, 0)) (by (with_reducible repeat (first | apply lN_ | apply lD_ | apply lA_)); refine blk_far ?_ NB932_953.out _; (with_reducible repeat (first | apply lN_ | apply lD_ | apply lA_)); refine blk_far ?_ NB932_953.out _; (with_reducible repeat (first | apply lN_ | apply lD_ | apply lA_)); refine blk_far ?_ NB932_953.out _; (with_reducible repeat (first | apply lN_ | apply lD_ | apply lA_)); exact BK932.out) hb); have n10_ := Aside0.mk (blk_below (g := gb953) (o := .cells #[.slice Ao23 t943.length co23, .slice Ao26 t946.length co26, .slice Ao27 t949.length co27] 35 (0, 0)) (by (with_reducible repeat (first | apply lN_ | apply lD_ | apply lA_)); refine blk_put (cs := #[.slice Ao23 t943.length co23, .slice Ao26 t946.length co26, .slice none 0 0]) ?_ 2 _ rfl; (with_reducible repeat (first | apply lN_ | apply lD_ | apply lA_)); refine blk_put (cs := #[.slice Ao23 t943.length co23, .slice none 0 0, .slice none 0 0]) ?_ 1 _ rfl; (with_reducible repeat (first | apply lN_ | apply lD_ | apply lA_)); refine blk_put (cs := #[.slice none 0 0, .slice none 0 0, .slice none 0 0]) ?_ 0 _ rfl; (with_reducible repeat (first | apply lN_ | apply lD_ | apply lA_)); exact BK953.out) hb); have n11_ := Aside0.mk (below_step (bb2_ HB GE932 GE953) hb); clear HO936; clear HO939; clear HO942; clear HO945; clear HO948; clear HO951; clear BK932; clear BK953; clear HB; have HO936 := n0_; have HO939 := n1_; have HO942 := n2_; have HO945 := n3_; have HO948 := n4_; have HO951 := n5_; have HO956 := n6_; have HO959 := n7_; have HO962 := n8_; have BK932 := n9_; have BK953 := n10_; have HB := n11_; clear n0_ n1_ n2_ n3_ n4_ n5_ n6_ n7_ n8_ n9_ n10_ n11_; (try clear hb); (try clear hb2); (try clear hk); (try clear hi); (try clear ho0); (try clear ho1); (try clear ho2)) | ((with_reducible refine gate_dst (N := 8) rfl ?_); refine box_event ?hg (N := 8) ?hd (cs := #[.slice none 0 0, .slice none 0 0, .slice none 0 0]) (t := 35) ?hr ?_; (case hd => rfl); (case hg => rfl); (case hr => first | (go_simp; done) | (go_simp; rfl)); intro gb963 hg w30 hbox hb; have n0_ := Aside0.mk (Kd.R_below (ra_ HO936) hb); have n1_ := Aside0.mk (Kd.R_below (ra_ HO939) hb); have n2_ := Aside0.mk (Kd.R_below (ra_ HO942) hb); have n3_ := Aside0.mk (Kd.R_below (ra_ HO945) hb); have n4_ := Aside0.mk (Kd.R_below (ra_ HO948) hb); have n5_ := Aside0.mk (Kd.R_below (ra_ HO951) hb); have n6_ := Aside0.mk (Kd.R_below (ra_ HO956) hb); have n7_ := Aside0.mk (Kd.R_below (ra_ HO959) hb); have n8_ := Aside0.mk (Kd.R_below (ra_ HO962) hb); have n9_ := Aside0.mk (lb_ BK932 hb); have n10_ := Aside0.mk (lb_ BK953 hb); have n11_ := Aside0.mk (below_step (bb2_ HB GE932 GE953) hb); have n12_ := Aside0.mk (hbox); have n13_ := Aside0.mk ((by rw [hg]; exact (below_size (bb2_ HB GE932 GE953)) : w.heap.size ≤ gb963)); have n14_ := Aside0.mk ((by rw [hg]; exact (below_size (bb2_ HB GE932 GE953)) : w.heap.size ≤ gb963)); have n15_ := Aside0.mk ((by rw [hg]; exact Nat.ne_of_lt (blk_lt (g := gb932) (o := .cells #[.slice A0_0 l0_0.length c0_0, .slice A0_1 l0_1.length c0_1, .slice A0_2 l0_2.length c0_2] 45 (0, 0)) (la_ BK932)) : gb932 ≠ gb963)); have n16_ := Aside0.mk ((by rw [hg]; exact Nat.ne_of_gt (blk_lt (g := gb932) (o := .cells #[.slice A0_0 l0_0.length c0_0, .slice A0_1 l0_1.length c0_1, .slice A0_2 l0_2.length c0_2] 45 (0, 0)) (la_ BK932)) : gb963 ≠ gb932)); have n17_ := Aside0.mk ((by rw [hg]; exact Nat.ne_of_lt (blk_lt (g := gb953) (o := .cells #[.slice Ao23 t943.length co23, .slice Ao26 t946.length co26, .slice Ao27 t949.length co27] 35 (0, 0)) (la_ BK953)) : gb953 ≠ gb963)); have n18_ := Aside0.mk ((by rw [hg]; exact Nat.ne_of_gt (blk_lt (g := gb953) (o := .cells #[.slice Ao23 t943.length co23, .slice Ao26 t946.length co26, .slice Ao27 t949.length co27] 35 (0, 0)) (la_ BK953)) : gb963 ≠ gb953)); clear HO936; clear HO939; clear HO942; clear HO945; clear HO948; clear HO951; clear HO956; clear HO959; clear HO962; clear BK932; clear BK953; clear HB; have HO936 := n0_; have HO939 := n1_; have HO942 := n2_; have HO945 := n3_; have HO948 := n4_; have HO951 := n5_; have HO956 := n6_; have HO959 := n7_; have HO962 := n8_; have BK932 := n9_; have BK953 := n10_; have HB := n11_; have BK963 := n12_; have GW963 := n13_; have GE963 := n14_; have NB932_963 := n15_; have NB963_932 := n16_; have NB953_963 := n17_; have NB963_953 := n18_; clear n0_ n1_ n2_ n3_ n4_ n5_ n6_ n7_ n8_ n9_ n10_ n11_ n12_ n13_ n14_ n15_ n16_ n17_ n18_; clear hb hbox hg; obtain ⟨Ao31, co31, eo31⟩ := Kd.R_slice HO956.out; subst eo31; have hnb32 := NB963_932.out; have hnc32 := NB932_963.out; have hnb33 := NB963_953.out; have hnc33 := NB953_963.out; have hcz34_0 : w30.cell? ⟨gb963, 0, none⟩ = some (.slice none 0 0) := (blk_cell BK963.out 0).trans rfl; have hcz34_1 : w30.cell? ⟨gb963, 1, none⟩ = some (.slice none 0 0) := (blk_cell BK963.out 1).trans rfl; have hcz34_2 : w30.cell? ⟨gb963, 2, none⟩ = some (.slice none 0 0) := (blk_cell BK963.out 2).trans rfl; have hfz34_0 := blk_frozen BK963.out 0; have hfz34_1 := blk_frozen BK963.out 1; have hfz34_2 := blk_frozen BK963.out 2; obtain ⟨Ao35, co35, eo35⟩ := Kd.R_slice HO959.out; subst eo35; obtain ⟨Ao36, co36, eo36⟩ := Kd.R_slice HO962.out; subst eo36) | ((with_reducible refine gate_callee (f := 42) rfl ?_); refine goesL_ (some 33) rfl rfl Try.func42 (by kernel_rfl) rfl #[.agg #[.slice Ao31 t954.length co31, .slice Ao35 t957.length co35, .slice Ao36 t960.length co36], .int .i64 a1] rfl args_ ?_; (with_reducible refine (impl_ForgetEdits.calls k _ _ t954 _ _ t957 _ _ t960 a1 t964 t967 t970 t973 _ ?side1 ?side2 ?side3 ?side4 ?side5 ?side6 A11.out).mono ?_); (case side1 => refine (Kd.R_reads' (e := 9) (base := w.heap.size) (ok := fun k_ => ((True ∧ some k_ ≠ (.slice Ao18 t934.length co18 : Value).ownBlock) ∧ some k_ ≠ (.slice Ao23 t943.length co23 : Value).ownBlock)) (n := t954.length) (c := co31) ?_).2.2; exact (rf_ (fm_ (fr_ (fr_ (fr_ (ft_ HO956 BK963) 0 (.slice Ao31 t954.length co31)) 1 (.slice Ao35 t957.length co35)) 2 (.slice Ao36 t960.length co36))))); (case side2 => exact (Kd.R_reads' HO956.out).2.1); (case side3 => refine (Kd.R_reads' (e := 25) (base := w.heap.size) (ok := fun k_ => ((((some k_ ≠ (.slice Ao36 t960.length co36 : Value).ownBlock ∧ some k_ ≠ (.slice Ao19 t937.length co19 : Value).ownBlock) ∧ some k_ ≠ (.slice Ao20 t940.length co20 : Value).ownBlock) ∧ some k_ ≠ (.slice Ao26 t946.length co26 : Value).ownBlock) ∧ some k_ ≠ (.slice Ao27 t949.length co27 : Value).ownBlock)) (n := t957.length) (c := co35) ?_).2.2; exact (rf_ (fm_ (fr_ (fr_ (fr_ (ft_ HO959 BK963) 0 (.slice Ao31 t954.length co31)) 1 (.slice Ao35 t957.length co35)) 2 (.slice Ao36 t960.length co36))))); (case side4 => exact (Kd.R_reads' HO959.out).2.1); (case side5 => refine (Kd.R_reads' (e := 25) (base := w.heap.size) (ok := fun k_ => ((((some k_ ≠ (.slice Ao35 t957.length co35 : Value).ownBlock ∧ some k_ ≠ (.slice Ao19 t937.length co19 : Value).ownBlock) ∧ some k_ ≠ (.slice Ao20 t940.length co20 : Value).ownBlock) ∧ some k_ ≠ (.slice Ao26 t946.length co26 : Value).ownBlock) ∧ some k_ ≠ (.slice Ao27 t949.length co27 : Value).ownBlock)) (n := t960.length) (c := co36) ?_).2.2; exact (rf_ (fm_ (fr_ (fr_ (fr_ (ft_ HO962 BK963) 0 (.slice Ao31 t954.length co31)) 1 (.slice Ao35 t957.length co35)) 2 (.slice Ao36 t960.length co36))))); (case side6 => exact (Kd.R_reads' HO962.out).2.1); rintro e w37 ⟨v965, v968, v971, rfl, ho0, ho1, ho2, hb⟩; refine ⟨_, rfl, ?_⟩; have n0_ := Aside0.mk (Kd.R_elder' (rf_ (fm_ (fr_ (fr_ (fr_ (ft_ HO936 BK963) 0 (.slice Ao31 t954.length co31)) 1 (.slice Ao35 t957.length co35)) 2 (.slice Ao36 t960.length co36)))) (Kd.R_base ho0) hb); have n1_ := Aside0.mk (Kd.R_mono (Kd.R_told (Kd.R_told (Kd.R_old (rf_ (fm_ (fr_ (fr_ (fr_ (ft_ HO939 BK963) 0 (.slice Ao31 t954.length co31)) 1 (.slice Ao35 t957.length co35)) 2 (.slice Ao36 t960.length co36)))) hb) (Kd.R_base ho1)) (Kd.R_base ho2)) (fun _ h_ => h_.1)); have n2_ := Aside0.mk (Kd.R_mono (Kd.R_told (Kd.R_told (Kd.R_old (rf_ (fm_ (fr_ (fr_ (fr_ (ft_ HO942 BK963) 0 (.slice Ao31 t954.length co31)) 1 (.slice Ao35 t957.length co35)) 2 (.slice Ao36 t960.length co36)))) hb) (Kd.R_base ho1)) (Kd.R_base ho2)) (fun _ h_ => h_.1)); have n3_ := Aside0.mk (Kd.R_elder' (rf_ (fm_ (fr_ (fr_ (fr_ (ft_ HO945 BK963) 0 (.slice Ao31 t954.length co31)) 1 (.slice Ao35 t957.length co35)) 2 (.slice Ao36 t960.length co36)))) (Kd.R_base ho0) hb); have n4_ := Aside0.mk (Kd.R_mono (Kd.R_told (Kd.R_told (Kd.R_old (rf_ (fm_ (fr_ (fr_ (fr_ (ft_ HO948 BK963) 0 (.slice Ao31 t954.length co31)) 1 (.slice Ao35 t957.length co35)) 2 (.slice Ao36 t960.length co36)))) hb) (Kd.R_base ho1)) (Kd.R_base ho2)) (fun _ h_ => h_.1)); have n5_ := Aside0.mk (Kd.R_mono (Kd.R_told (Kd.R_told (Kd.R_old (rf_ (fm_ (fr_ (fr_ (fr_ (ft_ HO951 BK963) 0 (.slice Ao31 t954.length co31)) 1 (.slice Ao35 t957.length co35)) 2 (.slice Ao36 t960.length co36)))) hb) (Kd.R_base ho1)) (Kd.R_base ho2)) (fun _ h_ => h_.1)); have n6_ := Aside0.mk (Kd.R_elder' (rf_ (fm_ (fr_ (fr_ (fr_ (ft_ HO956 BK963) 0 (.slice Ao31 t954.length co31)) 1 (.slice Ao35 t957.length co35)) 2 (.slice Ao36 t960.length co36)))) (Kd.R_base ho0) hb); have n7_ := Aside0.mk (Kd.R_mono (Kd.R_told (Kd.R_told (Kd.R_old (rf_ (fm_ (fr_ (fr_ (fr_ (ft_ HO959 BK963) 0 (.slice Ao31 t954.length co31)) 1 (.slice Ao35 t957.length co35)) 2 (.slice Ao36 t960.length co36)))) hb) (Kd.R_base ho1)) (Kd.R_base ho2)) (fun _ h_ => h_.1)); have n8_ := Aside0.mk (Kd.R_mono (Kd.R_told (Kd.R_told (Kd.R_old (rf_ (fm_ (fr_ (fr_ (fr_ (ft_ HO962 BK963) 0 (.slice Ao31 t954.length co31)) 1 (.slice Ao35 t957.length co35)) 2 (.slice Ao36 t960.length co36)))) hb) (Kd.R_base ho1)) (Kd.R_base ho2)) (fun _ h_ => h_.1)); have n9_ := Aside0.mk (Kd.R_lower (Kd.R_new' (Kd.R_new' (Kd.R_new' ho0 (Kd.R_lt (rf_ (fm_ (fr_ (fr_ (fr_ (ft_ HO936 BK963) 0 (.slice Ao31 t954.length co31)) 1 (.slice Ao35 t957.length co35)) 2 (.slice Ao36 t960.length co36)))))) (Kd.R_lt (rf_ (fm_ (fr_ (fr_ (fr_ (ft_ HO945 BK963) 0 (.slice Ao31 t954.length co31)) 1 (.slice Ao35 t957.length co35)) 2 (.slice Ao36 t960.length co36)))))) (Kd.R_lt (rf_ (fm_ (fr_ (fr_ (fr_ (ft_ HO956 BK963) 0 (.slice Ao31 t954.length co31)) 1 (.slice Ao35 t957.length co35)) 2 (.slice Ao36 t960.length co36)))))) (below_size (bb3_ HB GE932 GE953 GE963))); have n10_ := Aside0.mk (Kd.R_lower (Kd.R_new' (Kd.R_new' (Kd.R_new' (Kd.R_new' (Kd.R_new' (Kd.R_new' ho1 (Kd.R_lt (rf_ (fm_ (fr_ (fr_ (fr_ (ft_ HO939 BK963) 0 (.slice Ao31 t954.length co31)) 1 (.slice Ao35 t957.length co35)) 2 (.slice Ao36 t960.length co36)))))) (Kd.R_lt (rf_ (fm_ (fr_ (fr_ (fr_ (ft_ HO942 BK963) 0 (.slice Ao31 t954.length co31)) 1 (.slice Ao35 t957.length co35)) 2 (.slice Ao36 t960.length co36)))))) (Kd.R_lt (rf_ (fm_ (fr_ (fr_ (fr_ (ft_ HO948 BK963) 0 (.slice Ao31 t954.length co31)) 1 (.slice Ao35 t957.length co35)) 2 (.slice Ao36 t960.length co36)))))) (Kd.R_lt (rf_ (fm_ (fr_ (fr_ (fr_ (ft_ HO951 BK963) 0 (.slice Ao31 t954.length co31)) 1 (.slice Ao35 t957.length co35)) 2 (.slice Ao36 t960.length co36)))))) (Kd.R_lt (rf_ (fm_ (fr_ (fr_ (fr_ (ft_ HO959 BK963) 0 (.slice Ao31 t954.length co31)) 1 (.slice Ao35 t957.length co35)) 2 (.slice Ao36 t960.length co36)))))) (Kd.R_lt (rf_ (fm_ (fr_ (fr_ (fr_ (ft_ HO962 BK963) 0 (.slice Ao31 t954.length co31)) 1 (.slice Ao35 t957.length co35)) 2 (.slice Ao36 t960.length co36)))))) (below_size (bb3_ HB GE932 GE953 GE963))); have n11_ := Aside0.mk (Kd.R_lower (Kd.R_new' (Kd.R_new' (Kd.R_new' (Kd.R_new' (Kd.R_new' (Kd.R_new' ho2 (Kd.R_lt (rf_ (fm_ (fr_ (fr_ (fr_ (ft_ HO939 BK963) 0 (.slice Ao31 t954.length co31)) 1 (.slice Ao35 t957.length co35)) 2 (.slice Ao36 t960.length co36)))))) (Kd.R_lt (rf_ (fm_ (fr_ (fr_ (fr_ (ft_ HO942 BK963) 0 (.slice Ao31 t954.length co31)) 1 (.slice Ao35 t957.length co35)) 2 (.slice Ao36 t960.length co36)))))) (Kd.R_lt (rf_ (fm_ (fr_ (fr_ (fr_ (ft_ HO948 BK963) 0 (.slice Ao31 t954.length co31)) 1 (.slice Ao35 t957.length co35)) 2 (.slice Ao36 t960.length co36)))))) (Kd.R_lt (rf_ (fm_ (fr_ (fr_ (fr_ (ft_ HO951 BK963) 0 (.slice Ao31 t954.length co31)) 1 (.slice Ao35 t957.length co35)) 2 (.slice Ao36 t960.length co36)))))) (Kd.R_lt (rf_ (fm_ (fr_ (fr_ (fr_ (ft_ HO959 BK963) 0 (.slice Ao31 t954.length co31)) 1 (.slice Ao35 t957.length co35)) 2 (.slice Ao36 t960.length co36)))))) (Kd.R_lt (rf_ (fm_ (fr_ (fr_ (fr_ (ft_ HO962 BK963) 0 (.slice Ao31 t954.length co31)) 1 (.slice Ao35 t957.length co35)) 2 (.slice Ao36 t960.length co36)))))) (below_size (bb3_ HB GE932 GE953 GE963))); have n12_ := Aside0.mk (blk_below (g := gb932) (o := .cells #[.slice A0_0 l0_0.length c0_0, .slice A0_1 l0_1.length c0_1, .slice A0_2 l0_2.length c0_2] 45 (0, 0)) (by (with_reducible repeat (first | apply lN_ | apply lD_ | apply lA_)); refine blk_far ?_ NB932_963.out _; (with_reducible repeat (first | apply lN_ | apply lD_ | apply lA_)); refine blk_far ?_ NB932_963.out _; (with_reducible repeat (first | apply lN_ | apply lD_ | apply lA_)); refine blk_far ?_ NB932_963.out _; (with_reducible repeat (first | apply lN_ | apply lD_ | apply lA_)); exact BK932.out) hb); have n13_ := Aside0.mk (blk_below (g := gb953) (o := .cells #[.slice Ao23 t943.length co23, .slice Ao26 t946.length co26, .slice Ao27 t949.length co27] 35 (0, 0)) (by (with_reducible repeat (first | apply lN_ | apply lD_ | apply lA_)); refine blk_far ?_ NB953_963.out _; (with_reducible repeat (first | apply lN_ | apply lD_ | apply lA_)); refine blk_far ?_ NB953_963.out _; (with_reducible repeat (first | apply lN_ | apply lD_ | apply lA_)); refine blk_far ?_ NB953_963.out _; (with_reducible repeat (first | apply lN_ | apply lD_ | apply lA_)); exact BK953.out) hb); have n14_ := Aside0.mk (blk_below (g := gb963) (o := .cells #[.slice Ao31 t954.length co31, .slice Ao35 t957.length co35, .slice Ao36 t960.length co36] 35 (0, 0)) (by (with_reducible repeat (first | apply lN_ | apply lD_ | apply lA_)); refine blk_put (cs := #[.slice Ao31 t954.length co31, .slice Ao35 t957.length co35, .slice none 0 0]) ?_ 2 _ rfl; (with_reducible repeat (first | apply lN_ | apply lD_ | apply lA_)); refine blk_put (cs := #[.slice Ao31 t954.length co31, .slice none 0 0, .slice none 0 0]) ?_ 1 _ rfl; (with_reducible repeat (first | apply lN_ | apply lD_ | apply lA_)); refine blk_put (cs := #[.slice none 0 0, .slice none 0 0, .slice none 0 0]) ?_ 0 _ rfl; (with_reducible repeat (first | apply lN_ | apply lD_ | apply lA_)); exact BK963.out) hb); have n15_ := Aside0.mk (below_step (bb3_ HB GE932 GE953 GE963) hb); clear HO936; clear HO939; clear HO942; clear HO945; clear HO948; clear HO951; clear HO956; clear HO959; clear HO962; clear BK932; clear BK953; clear BK963; clear HB; have HO936 := n0_; have HO939 := n1_; have HO942 := n2_; have HO945 := n3_; have HO948 := n4_; have HO951 := n5_; have HO956 := n6_; have HO959 := n7_; have HO962 := n8_; have HO966 := n9_; have HO969 := n10_; have HO972 := n11_; have BK932 := n12_; have BK953 := n13_; have BK963 := n14_; have HB := n15_; clear n0_ n1_ n2_ n3_ n4_ n5_ n6_ n7_ n8_ n9_ n10_ n11_ n12_ n13_ n14_ n15_; (try clear hb); (try clear hb2); (try clear hk); (try clear hi); (try clear ho0); (try clear ho1); (try clear ho2)) | ((with_reducible refine gate_dst (N := 9) rfl ?_); refine box_event ?hg (N := 9) ?hd (cs := #[.slice none 0 0, .slice none 0 0, .slice none 0 0]) (t := 35) ?hr ?_; (case hd => rfl); (case hg => rfl); (case hr => first | (go_simp; done) | (go_simp; rfl)); intro gb974 hg w38 hbox hb; have n0_ := Aside0.mk (Kd.R_below (ra_ HO936) hb); have n1_ := Aside0.mk (Kd.R_below (ra_ HO939) hb); have n2_ := Aside0.mk (Kd.R_below (ra_ HO942) hb); have n3_ := Aside0.mk (Kd.R_below (ra_ HO945) hb); have n4_ := Aside0.mk (Kd.R_below (ra_ HO948) hb); have n5_ := Aside0.mk (Kd.R_below (ra_ HO951) hb); have n6_ := Aside0.mk (Kd.R_below (ra_ HO956) hb); have n7_ := Aside0.mk (Kd.R_below (ra_ HO959) hb); have n8_ := Aside0.mk (Kd.R_below (ra_ HO962) hb); have n9_ := Aside0.mk (Kd.R_below (ra_ HO966) hb); have n10_ := Aside0.mk (Kd.R_below (ra_ HO969) hb); have n11_ := Aside0.mk (Kd.R_below (ra_ HO972) hb); have n12_ := Aside0.mk (lb_ BK932 hb); have n13_ := Aside0.mk (lb_ BK953 hb); have n14_ := Aside0.mk (lb_ BK963 hb); have n15_ := Aside0.mk (below_step (bb3_ HB GE932 GE953 GE963) hb); have n16_ := Aside0.mk (hbox); have n17_ := Aside0.mk ((by rw [hg]; exact (below_size (bb3_ HB GE932 GE953 GE963)) : w.heap.size ≤ gb974)); have n18_ := Aside0.mk ((by rw [hg]; exact (below_size (bb3_ HB GE932 GE953 GE963)) : w.heap.size ≤ gb974)); have n19_ := Aside0.mk ((by rw [hg]; exact Nat.ne_of_lt (blk_lt (g := gb932) (o := .cells #[.slice A0_0 l0_0.length c0_0, .slice A0_1 l0_1.length c0_1, .slice A0_2 l0_2.length c0_2] 45 (0, 0)) (la_ BK932)) : gb932 ≠ gb974)); have n20_ := Aside0.mk ((by rw [hg]; exact Nat.ne_of_gt (blk_lt (g := gb932) (o := .cells #[.slice A0_0 l0_0.length c0_0, .slice A0_1 l0_1.length c0_1, .slice A0_2 l0_2.length c0_2] 45 (0, 0)) (la_ BK932)) : gb974 ≠ gb932)); have n21_ := Aside0.mk ((by rw [hg]; exact Nat.ne_of_lt (blk_lt (g := gb953) (o := .cells #[.slice Ao23 t943.length co23, .slice Ao26 t946.length co26, .slice Ao27 t949.length co27] 35 (0, 0)) (la_ BK953)) : gb953 ≠ gb974)); have n22_ := Aside0.mk ((by rw [hg]; exact Nat.ne_of_gt (blk_lt (g := gb953) (o := .cells #[.slice Ao23 t943.length co23, .slice Ao26 t946.length co26, .slice Ao27 t949.length co27] 35 (0, 0)) (la_ BK953)) : gb974 ≠ gb953)); have n23_ := Aside0.mk ((by rw [hg]; exact Nat.ne_of_lt (blk_lt (g := gb963) (o := .cells #[.slice Ao31 t954.length co31, .slice Ao35 t957.length co35, .slice Ao36 t960.length co36] 35 (0, 0)) (la_ BK963)) : gb963 ≠ gb974)); have n24_ := Aside0.mk ((by rw [hg]; exact Nat.ne_of_gt (blk_lt (g := gb963) (o := .cells #[.slice Ao31 t954.length co31, .slice Ao35 t957.length co35, .slice Ao36 t960.length co36] 35 (0, 0)) (la_ BK963)) : gb974 ≠ gb963)); clear HO936; clear HO939; clear HO942; clear HO945; clear HO948; clear HO951; clear HO956; clear HO959; clear HO962; clear HO966; clear HO969; clear HO972; clear BK932; clear BK953; clear BK963; clear HB; have HO936 := n0_; have HO939 := n1_; have HO942 := n2_; have HO945 := n3_; have HO948 := n4_; have HO951 := n5_; have HO956 := n6_; have HO959 := n7_; have HO962 := n8_; have HO966 := n9_; have HO969 := n10_; have HO972 := n11_; have BK932 := n12_; have BK953 := n13_; have BK963 := n14_; have HB := n15_; have BK974 := n16_; have GW974 := n17_; have GE974 := n18_; have NB932_974 := n19_; have NB974_932 := n20_; have NB953_974 := n21_; have NB974_953 := n22_; have NB963_974 := n23_; have NB974_963 := n24_; clear n0_ n1_ n2_ n3_ n4_ n5_ n6_ n7_ n8_ n9_ n10_ n11_ n12_ n13_ n14_ n15_ n16_ n17_ n18_ n19_ n20_ n21_ n22_ n23_ n24_; clear hb hbox hg; obtain ⟨Ao39, co39, eo39⟩ := Kd.R_slice HO966.out; subst eo39; have hnb40 := NB974_932.out; have hnc40 := NB932_974.out; have hnb41 := NB974_953.out; have hnc41 := NB953_974.out; have hnb42 := NB974_963.out; have hnc42 := NB963_974.out; have hcz43_0 : w38.cell? ⟨gb974, 0, none⟩ = some (.slice none 0 0) := (blk_cell BK974.out 0).trans rfl; have hcz43_1 : w38.cell? ⟨gb974, 1, none⟩ = some (.slice none 0 0) := (blk_cell BK974.out 1).trans rfl; have hcz43_2 : w38.cell? ⟨gb974, 2, none⟩ = some (.slice none 0 0) := (blk_cell BK974.out 2).trans rfl; have hfz43_0 := blk_frozen BK974.out 0; have hfz43_1 := blk_frozen BK974.out 1; have hfz43_2 := blk_frozen BK974.out 2; obtain ⟨Ao44, co44, eo44⟩ := Kd.R_slice HO969.out; subst eo44; obtain ⟨Ao45, co45, eo45⟩ := Kd.R_slice HO972.out; subst eo45))
  (try simp only [Act.put, List.setIfInBounds_toArray, List.set_cons_zero, List.set_cons_succ])
  go_cut [44] (fun v44 wc => ∃ (kq : Nat) (x44_11 : Bool), v44 = .bool x44_11 ∧ Aside0 (laws_FnExactForgetEdits.j0 kq a1 t952 t973 x44_11 l0_0 l0_1 l0_2 t943 t946 t949 t954 t957 t960 t964 t967 t970 = some r) ∧ Aside0 (kq ≤ k) ∧ Aside0 (Kd.R Kd.string 9 wc w.heap.size (fun k_ => some k_ ≠ ((.slice Ao31 t954.length co31) : Value).ownBlock ∧ some k_ ≠ ((.slice Ao39 t964.length co39) : Value).ownBlock) (.slice Ao23 t943.length co23) t943) ∧ Aside0 (Kd.R k25 25 wc w.heap.size (fun k_ => some k_ ≠ ((.slice Ao27 t949.length co27) : Value).ownBlock ∧ some k_ ≠ ((.slice Ao35 t957.length co35) : Value).ownBlock ∧ some k_ ≠ ((.slice Ao36 t960.length co36) : Value).ownBlock ∧ some k_ ≠ ((.slice Ao44 t967.length co44) : Value).ownBlock ∧ some k_ ≠ ((.slice Ao45 t970.length co45) : Value).ownBlock) (.slice Ao26 t946.length co26) t946) ∧ Aside0 (Kd.R k25 25 wc w.heap.size (fun k_ => some k_ ≠ ((.slice Ao26 t946.length co26) : Value).ownBlock ∧ some k_ ≠ ((.slice Ao35 t957.length co35) : Value).ownBlock ∧ some k_ ≠ ((.slice Ao36 t960.length co36) : Value).ownBlock ∧ some k_ ≠ ((.slice Ao44 t967.length co44) : Value).ownBlock ∧ some k_ ≠ ((.slice Ao45 t970.length co45) : Value).ownBlock) (.slice Ao27 t949.length co27) t949) ∧ Aside0 (Kd.R Kd.string 9 wc w.heap.size (fun k_ => some k_ ≠ ((.slice Ao23 t943.length co23) : Value).ownBlock ∧ some k_ ≠ ((.slice Ao39 t964.length co39) : Value).ownBlock) (.slice Ao31 t954.length co31) t954) ∧ Aside0 (Kd.R k25 25 wc w.heap.size (fun k_ => some k_ ≠ ((.slice Ao26 t946.length co26) : Value).ownBlock ∧ some k_ ≠ ((.slice Ao27 t949.length co27) : Value).ownBlock ∧ some k_ ≠ ((.slice Ao36 t960.length co36) : Value).ownBlock ∧ some k_ ≠ ((.slice Ao44 t967.length co44) : Value).ownBlock ∧ some k_ ≠ ((.slice Ao45 t970.length co45) : Value).ownBlock) (.slice Ao35 t957.length co35) t957) ∧ Aside0 (Kd.R k25 25 wc w.heap.size (fun k_ => some k_ ≠ ((.slice Ao26 t946.length co26) : Value).ownBlock ∧ some k_ ≠ ((.slice Ao27 t949.length co27) : Value).ownBlock ∧ some k_ ≠ ((.slice Ao35 t957.length co35) : Value).ownBlock ∧ some k_ ≠ ((.slice Ao44 t967.length co44) : Value).ownBlock ∧ some k_ ≠ ((.slice Ao45 t970.length co45) : Value).ownBlock) (.slice Ao36 t960.length co36) t960) ∧ Aside0 (Kd.R Kd.string 9 wc w.heap.size (fun k_ => some k_ ≠ ((.slice Ao23 t943.length co23) : Value).ownBlock ∧ some k_ ≠ ((.slice Ao31 t954.length co31) : Value).ownBlock) (.slice Ao39 t964.length co39) t964) ∧ Aside0 (Kd.R k25 25 wc w.heap.size (fun k_ => some k_ ≠ ((.slice Ao26 t946.length co26) : Value).ownBlock ∧ some k_ ≠ ((.slice Ao27 t949.length co27) : Value).ownBlock ∧ some k_ ≠ ((.slice Ao35 t957.length co35) : Value).ownBlock ∧ some k_ ≠ ((.slice Ao36 t960.length co36) : Value).ownBlock ∧ some k_ ≠ ((.slice Ao45 t970.length co45) : Value).ownBlock) (.slice Ao44 t967.length co44) t967) ∧ Aside0 (Kd.R k25 25 wc w.heap.size (fun k_ => some k_ ≠ ((.slice Ao26 t946.length co26) : Value).ownBlock ∧ some k_ ≠ ((.slice Ao27 t949.length co27) : Value).ownBlock ∧ some k_ ≠ ((.slice Ao35 t957.length co35) : Value).ownBlock ∧ some k_ ≠ ((.slice Ao36 t960.length co36) : Value).ownBlock ∧ some k_ ≠ ((.slice Ao44 t967.length co44) : Value).ownBlock) (.slice Ao45 t970.length co45) t970) ∧ Aside0 (wc.heap[gb932]? = some (.cells #[(.slice A0_0 l0_0.length c0_0), (.slice A0_1 l0_1.length c0_1), (.slice A0_2 l0_2.length c0_2)] 45 (0, 0))) ∧ Aside0 (wc.heap[gb953]? = some (.cells #[(.slice Ao23 t943.length co23), (.slice Ao26 t946.length co26), (.slice Ao27 t949.length co27)] 35 (0, 0))) ∧ Aside0 (wc.heap[gb963]? = some (.cells #[(.slice Ao31 t954.length co31), (.slice Ao35 t957.length co35), (.slice Ao36 t960.length co36)] 35 (0, 0))) ∧ Aside0 (wc.heap[gb974]? = some (.cells #[(.slice Ao39 t964.length co39), (.slice Ao44 t967.length co44), (.slice Ao45 t970.length co45)] 35 (0, 0))) ∧ Aside0 (Below w.heap.size w wc))
  case first =>
   have H := HC12.out
   clear HC12
   replace H := Option.bind_eq_some_iff.mp H
   obtain ⟨t975, A460, H⟩ := H
   try dsimp only at H
   have A46 := Aside0.mk A460
   clear A460
   by_cases c47 : t975 = true
   ·subst c47
    have H1 : (laws_FnExactForgetEdits.j0 k a1 t952 t973 (t973 != t952) l0_0 l0_1 l0_2 t943 t946 t949 t954 t957 t960 t964 t967 t970) = some r := by rw [if_pos rfl] at H; exact H
    clear H
    have H := H1
    clear H1
    have H' := Aside0.mk H
    clear H
    have hnb48 := NB974_932.out
    have hnc48 := NB932_974.out
    have hnb49 := NB974_953.out
    have hnc49 := NB953_974.out
    have hnb50 := NB974_963.out
    have hnc50 := NB963_974.out
    have hcz51_0 : w38.cell? ⟨gb974, 0, none⟩ = some (.slice none 0 0) := (blk_cell BK974.out 0).trans rfl
    have hcz51_1 : w38.cell? ⟨gb974, 1, none⟩ = some (.slice none 0 0) := (blk_cell BK974.out 1).trans rfl
    have hcz51_2 : w38.cell? ⟨gb974, 2, none⟩ = some (.slice none 0 0) := (blk_cell BK974.out 2).trans rfl
    have hfz51_0 := blk_frozen BK974.out 0
    have hfz51_1 := blk_frozen BK974.out 1
    have hfz51_2 := blk_frozen BK974.out 2
    have hnb52 := NB953_932.out
    have hnc52 := NB932_953.out
    have hnb53 := NB953_963.out
    have hnc53 := NB963_953.out
    have hcz54_0 : w38.cell? ⟨gb953, 0, none⟩ = some (.slice Ao23 t943.length co23) := (blk_cell BK953.out 0).trans rfl
    have hcz54_1 : w38.cell? ⟨gb953, 1, none⟩ = some (.slice Ao26 t946.length co26) := (blk_cell BK953.out 1).trans rfl
    have hcz54_2 : w38.cell? ⟨gb953, 2, none⟩ = some (.slice Ao27 t949.length co27) := (blk_cell BK953.out 2).trans rfl
    have hfz54_0 := blk_frozen BK953.out 0
    have hfz54_1 := blk_frozen BK953.out 1
    have hfz54_2 := blk_frozen BK953.out 2
    go_wp2_with (first | ((with_reducible refine gate_callee (f := 23) rfl ?_); refine goesL_ (some 38) rfl rfl Try.func23 (by kernel_rfl) rfl #[.agg #[.slice Ao39 t964.length co39, .slice Ao44 t967.length co44, .slice Ao45 t970.length co45], .agg #[.slice Ao23 t943.length co23, .slice Ao26 t946.length co26, .slice Ao27 t949.length co27]] rfl args_ ?_; (with_reducible refine (laws_eqDesk.calls k _ _ t964 _ _ t967 _ _ t970 _ _ t943 _ _ t946 _ _ t949 true _ ?side1 ?side2 ?side3 ?side4 ?side5 ?side6 ?side7 ?side8 ?side9 ?side10 ?side11 ?side12 A46.out).mono ?_); (case side1 => refine (Kd.R_reads' (e := 9) (base := w.heap.size) (ok := fun k_ => (((True ∧ some k_ ≠ (.slice Ao18 t934.length co18 : Value).ownBlock) ∧ some k_ ≠ (.slice Ao23 t943.length co23 : Value).ownBlock) ∧ some k_ ≠ (.slice Ao31 t954.length co31 : Value).ownBlock)) (n := t964.length) (c := co39) ?_).2.2; exact (rf_ (fm_ (fr_ (fr_ (fr_ (ft_ HO966 BK974) 0 (.slice Ao39 t964.length co39)) 1 (.slice Ao44 t967.length co44)) 2 (.slice Ao45 t970.length co45))))); (case side2 => exact (Kd.R_reads' HO966.out).2.1); (case side3 => refine (Kd.R_reads' (e := 25) (base := w.heap.size) (ok := fun k_ => ((((((some k_ ≠ (.slice Ao45 t970.length co45 : Value).ownBlock ∧ some k_ ≠ (.slice Ao19 t937.length co19 : Value).ownBlock) ∧ some k_ ≠ (.slice Ao20 t940.length co20 : Value).ownBlock) ∧ some k_ ≠ (.slice Ao26 t946.length co26 : Value).ownBlock) ∧ some k_ ≠ (.slice Ao27 t949.length co27 : Value).ownBlock) ∧ some k_ ≠ (.slice Ao35 t957.length co35 : Value).ownBlock) ∧ some k_ ≠ (.slice Ao36 t960.length co36 : Value).ownBlock)) (n := t967.length) (c := co44) ?_).2.2; exact (rf_ (fm_ (fr_ (fr_ (fr_ (ft_ HO969 BK974) 0 (.slice Ao39 t964.length co39)) 1 (.slice Ao44 t967.length co44)) 2 (.slice Ao45 t970.length co45))))); (case side4 => exact (Kd.R_reads' HO969.out).2.1); (case side5 => refine (Kd.R_reads' (e := 25) (base := w.heap.size) (ok := fun k_ => ((((((some k_ ≠ (.slice Ao44 t967.length co44 : Value).ownBlock ∧ some k_ ≠ (.slice Ao19 t937.length co19 : Value).ownBlock) ∧ some k_ ≠ (.slice Ao20 t940.length co20 : Value).ownBlock) ∧ some k_ ≠ (.slice Ao26 t946.length co26 : Value).ownBlock) ∧ some k_ ≠ (.slice Ao27 t949.length co27 : Value).ownBlock) ∧ some k_ ≠ (.slice Ao35 t957.length co35 : Value).ownBlock) ∧ some k_ ≠ (.slice Ao36 t960.length co36 : Value).ownBlock)) (n := t970.length) (c := co45) ?_).2.2; exact (rf_ (fm_ (fr_ (fr_ (fr_ (ft_ HO972 BK974) 0 (.slice Ao39 t964.length co39)) 1 (.slice Ao44 t967.length co44)) 2 (.slice Ao45 t970.length co45))))); (case side6 => exact (Kd.R_reads' HO972.out).2.1); (case side7 => refine (Kd.R_reads' (e := 9) (base := w.heap.size) (ok := fun k_ => (((True ∧ some k_ ≠ (.slice Ao18 t934.length co18 : Value).ownBlock) ∧ some k_ ≠ (.slice Ao31 t954.length co31 : Value).ownBlock) ∧ some k_ ≠ (.slice Ao39 t964.length co39 : Value).ownBlock)) (n := t943.length) (c := co23) ?_).2.2; exact (rf_ (fm_ (fr_ (fr_ (fr_ (ft_ HO945 BK974) 0 (.slice Ao39 t964.length co39)) 1 (.slice Ao44 t967.length co44)) 2 (.slice Ao45 t970.length co45))))); (case side8 => exact (Kd.R_reads' HO945.out).2.1); (case side9 => refine (Kd.R_reads' (e := 25) (base := w.heap.size) (ok := fun k_ => ((((((some k_ ≠ (.slice Ao27 t949.length co27 : Value).ownBlock ∧ some k_ ≠ (.slice Ao19 t937.length co19 : Value).ownBlock) ∧ some k_ ≠ (.slice Ao20 t940.length co20 : Value).ownBlock) ∧ some k_ ≠ (.slice Ao35 t957.length co35 : Value).ownBlock) ∧ some k_ ≠ (.slice Ao36 t960.length co36 : Value).ownBlock) ∧ some k_ ≠ (.slice Ao44 t967.length co44 : Value).ownBlock) ∧ some k_ ≠ (.slice Ao45 t970.length co45 : Value).ownBlock)) (n := t946.length) (c := co26) ?_).2.2; exact (rf_ (fm_ (fr_ (fr_ (fr_ (ft_ HO948 BK974) 0 (.slice Ao39 t964.length co39)) 1 (.slice Ao44 t967.length co44)) 2 (.slice Ao45 t970.length co45))))); (case side10 => exact (Kd.R_reads' HO948.out).2.1); (case side11 => refine (Kd.R_reads' (e := 25) (base := w.heap.size) (ok := fun k_ => ((((((some k_ ≠ (.slice Ao26 t946.length co26 : Value).ownBlock ∧ some k_ ≠ (.slice Ao19 t937.length co19 : Value).ownBlock) ∧ some k_ ≠ (.slice Ao20 t940.length co20 : Value).ownBlock) ∧ some k_ ≠ (.slice Ao35 t957.length co35 : Value).ownBlock) ∧ some k_ ≠ (.slice Ao36 t960.length co36 : Value).ownBlock) ∧ some k_ ≠ (.slice Ao44 t967.length co44 : Value).ownBlock) ∧ some k_ ≠ (.slice Ao45 t970.length co45 : Value).ownBlock)) (n := t949.length) (c := co27) ?_).2.2; exact (rf_ (fm_ (fr_ (fr_ (fr_ (ft_ HO951 BK974) 0 (.slice Ao39 t964.length co39)) 1 (.slice Ao44 t967.length co44)) 2 (.slice Ao45 t970.length co45))))); (case side12 => exact (Kd.R_reads' HO951.out).2.1); rintro e w55 ⟨rfl, hb⟩; refine ⟨_, rfl, ?_⟩; have n0_ := Aside0.mk (Kd.R_below (rf_ (fm_ (fr_ (fr_ (fr_ (ft_ HO936 BK974) 0 (.slice Ao39 t964.length co39)) 1 (.slice Ao44 t967.length co44)) 2 (.slice Ao45 t970.length co45)))) hb); have n1_ := Aside0.mk (Kd.R_below (rf_ (fm_ (fr_ (fr_ (fr_ (ft_ HO939 BK974) 0 (.slice Ao39 t964.length co39)) 1 (.slice Ao44 t967.length co44)) 2 (.slice Ao45 t970.length co45)))) hb); have n2_ := Aside0.mk (Kd.R_below (rf_ (fm_ (fr_ (fr_ (fr_ (ft_ HO942 BK974) 0 (.slice Ao39 t964.length co39)) 1 (.slice Ao44 t967.length co44)) 2 (.slice Ao45 t970.length co45)))) hb); have n3_ := Aside0.mk (Kd.R_below (rf_ (fm_ (fr_ (fr_ (fr_ (ft_ HO945 BK974) 0 (.slice Ao39 t964.length co39)) 1 (.slice Ao44 t967.length co44)) 2 (.slice Ao45 t970.length co45)))) hb); have n4_ := Aside0.mk (Kd.R_below (rf_ (fm_ (fr_ (fr_ (fr_ (ft_ HO948 BK974) 0 (.slice Ao39 t964.length co39)) 1 (.slice Ao44 t967.length co44)) 2 (.slice Ao45 t970.length co45)))) hb); have n5_ := Aside0.mk (Kd.R_below (rf_ (fm_ (fr_ (fr_ (fr_ (ft_ HO951 BK974) 0 (.slice Ao39 t964.length co39)) 1 (.slice Ao44 t967.length co44)) 2 (.slice Ao45 t970.length co45)))) hb); have n6_ := Aside0.mk (Kd.R_below (rf_ (fm_ (fr_ (fr_ (fr_ (ft_ HO956 BK974) 0 (.slice Ao39 t964.length co39)) 1 (.slice Ao44 t967.length co44)) 2 (.slice Ao45 t970.length co45)))) hb); have n7_ := Aside0.mk (Kd.R_below (rf_ (fm_ (fr_ (fr_ (fr_ (ft_ HO959 BK974) 0 (.slice Ao39 t964.length co39)) 1 (.slice Ao44 t967.length co44)) 2 (.slice Ao45 t970.length co45)))) hb); have n8_ := Aside0.mk (Kd.R_below (rf_ (fm_ (fr_ (fr_ (fr_ (ft_ HO962 BK974) 0 (.slice Ao39 t964.length co39)) 1 (.slice Ao44 t967.length co44)) 2 (.slice Ao45 t970.length co45)))) hb); have n9_ := Aside0.mk (Kd.R_below (rf_ (fm_ (fr_ (fr_ (fr_ (ft_ HO966 BK974) 0 (.slice Ao39 t964.length co39)) 1 (.slice Ao44 t967.length co44)) 2 (.slice Ao45 t970.length co45)))) hb); have n10_ := Aside0.mk (Kd.R_below (rf_ (fm_ (fr_ (fr_ (fr_ (ft_ HO969 BK974) 0 (.slice Ao39 t964.length co39)) 1 (.slice Ao44 t967.length co44)) 2 (.slice Ao45 t970.length co45)))) hb); have n11_ := Aside0.mk (Kd.R_below (rf_ (fm_ (fr_ (fr_ (fr_ (ft_ HO972 BK974) 0 (.slice Ao39 t964.length co39)) 1 (.slice Ao44 t967.length co44)) 2 (.slice Ao45 t970.length co45)))) hb); have n12_ := Aside0.mk (blk_below (g := gb932) (o := .cells #[.slice A0_0 l0_0.length c0_0, .slice A0_1 l0_1.length c0_1, .slice A0_2 l0_2.length c0_2] 45 (0, 0)) (by (with_reducible repeat (first | apply lN_ | apply lD_ | apply lA_)); refine blk_far ?_ NB932_974.out _; (with_reducible repeat (first | apply lN_ | apply lD_ | apply lA_)); refine blk_far ?_ NB932_974.out _; (with_reducible repeat (first | apply lN_ | apply lD_ | apply lA_)); refine blk_far ?_ NB932_974.out _; (with_reducible repeat (first | apply lN_ | apply lD_ | apply lA_)); exact BK932.out) hb); have n13_ := Aside0.mk (blk_below (g := gb953) (o := .cells #[.slice Ao23 t943.length co23, .slice Ao26 t946.length co26, .slice Ao27 t949.length co27] 35 (0, 0)) (by (with_reducible repeat (first | apply lN_ | apply lD_ | apply lA_)); refine blk_far ?_ NB953_974.out _; (with_reducible repeat (first | apply lN_ | apply lD_ | apply lA_)); refine blk_far ?_ NB953_974.out _; (with_reducible repeat (first | apply lN_ | apply lD_ | apply lA_)); refine blk_far ?_ NB953_974.out _; (with_reducible repeat (first | apply lN_ | apply lD_ | apply lA_)); exact BK953.out) hb); have n14_ := Aside0.mk (blk_below (g := gb963) (o := .cells #[.slice Ao31 t954.length co31, .slice Ao35 t957.length co35, .slice Ao36 t960.length co36] 35 (0, 0)) (by (with_reducible repeat (first | apply lN_ | apply lD_ | apply lA_)); refine blk_far ?_ NB963_974.out _; (with_reducible repeat (first | apply lN_ | apply lD_ | apply lA_)); refine blk_far ?_ NB963_974.out _; (with_reducible repeat (first | apply lN_ | apply lD_ | apply lA_)); refine blk_far ?_ NB963_974.out _; (with_reducible repeat (first | apply lN_ | apply lD_ | apply lA_)); exact BK963.out) hb); have n15_ := Aside0.mk (blk_below (g := gb974) (o := .cells #[.slice Ao39 t964.length co39, .slice Ao44 t967.length co44, .slice Ao45 t970.length co45] 35 (0, 0)) (by (with_reducible repeat (first | apply lN_ | apply lD_ | apply lA_)); refine blk_put (cs := #[.slice Ao39 t964.length co39, .slice Ao44 t967.length co44, .slice none 0 0]) ?_ 2 _ rfl; (with_reducible repeat (first | apply lN_ | apply lD_ | apply lA_)); refine blk_put (cs := #[.slice Ao39 t964.length co39, .slice none 0 0, .slice none 0 0]) ?_ 1 _ rfl; (with_reducible repeat (first | apply lN_ | apply lD_ | apply lA_)); refine blk_put (cs := #[.slice none 0 0, .slice none 0 0, .slice none 0 0]) ?_ 0 _ rfl; (with_reducible repeat (first | apply lN_ | apply lD_ | apply lA_)); exact BK974.out) hb); have n16_ := Aside0.mk (below_step (bb4_ HB GE932 GE953 GE963 GE974) hb); clear HO936; clear HO939; clear HO942; clear HO945; clear HO948; clear HO951; clear HO956; clear HO959; clear HO962; clear HO966; clear HO969; clear HO972; clear BK932; clear BK953; clear BK963; clear BK974; clear HB; have HO936 := n0_; have HO939 := n1_; have HO942 := n2_; have HO945 := n3_; have HO948 := n4_; have HO951 := n5_; have HO956 := n6_; have HO959 := n7_; have HO962 := n8_; have HO966 := n9_; have HO969 := n10_; have HO972 := n11_; have BK932 := n12_; have BK953 := n13_; have BK963 := n14_; have BK974 := n15_; have HB := n16_; clear n0_ n1_ n2_ n3_ n4_ n5_ n6_ n7_ n8_ n9_ n10_ n11_ n12_ n13_ n14_ n15_ n16_; (try clear hb); (try clear hb2); (try clear hk); (try clear hi)))
    go_meet
    case rel => exact ⟨_, ((t973 != t952)), (by first | rfl | (simp; done) | (simp [*]; done)), H', ⟨by first | omega | exact Nat.le_refl _⟩, ⟨by (with_reducible repeat (first | apply rA_ | apply rN_ | apply rD_)); exact Kd.R_mono HO945.out (fun _ hk => ⟨hk.1.2, hk.2⟩)⟩, ⟨by (with_reducible repeat (first | apply rA_ | apply rN_ | apply rD_)); exact Kd.R_mono HO948.out (fun _ hk => ⟨hk.1.1.1.1.1.1, ⟨hk.1.1.1.2, ⟨hk.1.1.2, ⟨hk.1.2, hk.2⟩⟩⟩⟩)⟩, ⟨by (with_reducible repeat (first | apply rA_ | apply rN_ | apply rD_)); exact Kd.R_mono HO951.out (fun _ hk => ⟨hk.1.1.1.1.1.1, ⟨hk.1.1.1.2, ⟨hk.1.1.2, ⟨hk.1.2, hk.2⟩⟩⟩⟩)⟩, ⟨by (with_reducible repeat (first | apply rA_ | apply rN_ | apply rD_)); exact Kd.R_mono HO956.out (fun _ hk => ⟨hk.1.2, hk.2⟩)⟩, ⟨by (with_reducible repeat (first | apply rA_ | apply rN_ | apply rD_)); exact Kd.R_mono HO959.out (fun _ hk => ⟨hk.1.1.1.2, ⟨hk.1.1.2, ⟨hk.1.1.1.1.1.1, ⟨hk.1.2, hk.2⟩⟩⟩⟩)⟩, ⟨by (with_reducible repeat (first | apply rA_ | apply rN_ | apply rD_)); exact Kd.R_mono HO962.out (fun _ hk => ⟨hk.1.1.1.2, ⟨hk.1.1.2, ⟨hk.1.1.1.1.1.1, ⟨hk.1.2, hk.2⟩⟩⟩⟩)⟩, ⟨by (with_reducible repeat (first | apply rA_ | apply rN_ | apply rD_)); exact Kd.R_mono HO966.out (fun _ hk => ⟨hk.1.2, hk.2⟩)⟩, ⟨by (with_reducible repeat (first | apply rA_ | apply rN_ | apply rD_)); exact Kd.R_mono HO969.out (fun _ hk => ⟨hk.1.1.1.2, ⟨hk.1.1.2, ⟨hk.1.2, ⟨hk.2, hk.1.1.1.1.1.1⟩⟩⟩⟩)⟩, ⟨by (with_reducible repeat (first | apply rA_ | apply rN_ | apply rD_)); exact Kd.R_mono HO972.out (fun _ hk => ⟨hk.1.1.1.2, ⟨hk.1.1.2, ⟨hk.1.2, ⟨hk.2, hk.1.1.1.1.1.1⟩⟩⟩⟩)⟩, ⟨by (with_reducible repeat (first | apply lN_ | apply lD_ | apply lA_)); exact BK932.out⟩, ⟨by (with_reducible repeat (first | apply lN_ | apply lD_ | apply lA_)); exact BK953.out⟩, ⟨by (with_reducible repeat (first | apply lN_ | apply lD_ | apply lA_)); exact BK963.out⟩, ⟨by (with_reducible repeat (first | apply lN_ | apply lD_ | apply lA_)); exact BK974.out⟩, ⟨bb4_ HB GE932 GE953 GE963 GE974⟩⟩
   ·replace c47 := Bool.eq_false_iff.mpr c47
    subst c47
    have H1 : (laws_FnExactForgetEdits.j0 k a1 t952 t973 true l0_0 l0_1 l0_2 t943 t946 t949 t954 t957 t960 t964 t967 t970) = some r := by rw [if_neg (show ¬ (false = true) by decide)] at H; exact H
    clear H
    have H := H1
    clear H1
    have H' := Aside0.mk H
    clear H
    have hnb56 := NB974_932.out
    have hnc56 := NB932_974.out
    have hnb57 := NB974_953.out
    have hnc57 := NB953_974.out
    have hnb58 := NB974_963.out
    have hnc58 := NB963_974.out
    have hcz59_0 : w38.cell? ⟨gb974, 0, none⟩ = some (.slice none 0 0) := (blk_cell BK974.out 0).trans rfl
    have hcz59_1 : w38.cell? ⟨gb974, 1, none⟩ = some (.slice none 0 0) := (blk_cell BK974.out 1).trans rfl
    have hcz59_2 : w38.cell? ⟨gb974, 2, none⟩ = some (.slice none 0 0) := (blk_cell BK974.out 2).trans rfl
    have hfz59_0 := blk_frozen BK974.out 0
    have hfz59_1 := blk_frozen BK974.out 1
    have hfz59_2 := blk_frozen BK974.out 2
    have hnb60 := NB953_932.out
    have hnc60 := NB932_953.out
    have hnb61 := NB953_963.out
    have hnc61 := NB963_953.out
    have hcz62_0 : w38.cell? ⟨gb953, 0, none⟩ = some (.slice Ao23 t943.length co23) := (blk_cell BK953.out 0).trans rfl
    have hcz62_1 : w38.cell? ⟨gb953, 1, none⟩ = some (.slice Ao26 t946.length co26) := (blk_cell BK953.out 1).trans rfl
    have hcz62_2 : w38.cell? ⟨gb953, 2, none⟩ = some (.slice Ao27 t949.length co27) := (blk_cell BK953.out 2).trans rfl
    have hfz62_0 := blk_frozen BK953.out 0
    have hfz62_1 := blk_frozen BK953.out 1
    have hfz62_2 := blk_frozen BK953.out 2
    go_wp2_with (first | ((with_reducible refine gate_callee (f := 23) rfl ?_); refine goesL_ (some 38) rfl rfl Try.func23 (by kernel_rfl) rfl #[.agg #[.slice Ao39 t964.length co39, .slice Ao44 t967.length co44, .slice Ao45 t970.length co45], .agg #[.slice Ao23 t943.length co23, .slice Ao26 t946.length co26, .slice Ao27 t949.length co27]] rfl args_ ?_; (with_reducible refine (laws_eqDesk.calls k _ _ t964 _ _ t967 _ _ t970 _ _ t943 _ _ t946 _ _ t949 false _ ?side1 ?side2 ?side3 ?side4 ?side5 ?side6 ?side7 ?side8 ?side9 ?side10 ?side11 ?side12 A46.out).mono ?_); (case side1 => refine (Kd.R_reads' (e := 9) (base := w.heap.size) (ok := fun k_ => (((True ∧ some k_ ≠ (.slice Ao18 t934.length co18 : Value).ownBlock) ∧ some k_ ≠ (.slice Ao23 t943.length co23 : Value).ownBlock) ∧ some k_ ≠ (.slice Ao31 t954.length co31 : Value).ownBlock)) (n := t964.length) (c := co39) ?_).2.2; exact (rf_ (fm_ (fr_ (fr_ (fr_ (ft_ HO966 BK974) 0 (.slice Ao39 t964.length co39)) 1 (.slice Ao44 t967.length co44)) 2 (.slice Ao45 t970.length co45))))); (case side2 => exact (Kd.R_reads' HO966.out).2.1); (case side3 => refine (Kd.R_reads' (e := 25) (base := w.heap.size) (ok := fun k_ => ((((((some k_ ≠ (.slice Ao45 t970.length co45 : Value).ownBlock ∧ some k_ ≠ (.slice Ao19 t937.length co19 : Value).ownBlock) ∧ some k_ ≠ (.slice Ao20 t940.length co20 : Value).ownBlock) ∧ some k_ ≠ (.slice Ao26 t946.length co26 : Value).ownBlock) ∧ some k_ ≠ (.slice Ao27 t949.length co27 : Value).ownBlock) ∧ some k_ ≠ (.slice Ao35 t957.length co35 : Value).ownBlock) ∧ some k_ ≠ (.slice Ao36 t960.length co36 : Value).ownBlock)) (n := t967.length) (c := co44) ?_).2.2; exact (rf_ (fm_ (fr_ (fr_ (fr_ (ft_ HO969 BK974) 0 (.slice Ao39 t964.length co39)) 1 (.slice Ao44 t967.length co44)) 2 (.slice Ao45 t970.length co45))))); (case side4 => exact (Kd.R_reads' HO969.out).2.1); (case side5 => refine (Kd.R_reads' (e := 25) (base := w.heap.size) (ok := fun k_ => ((((((some k_ ≠ (.slice Ao44 t967.length co44 : Value).ownBlock ∧ some k_ ≠ (.slice Ao19 t937.length co19 : Value).ownBlock) ∧ some k_ ≠ (.slice Ao20 t940.length co20 : Value).ownBlock) ∧ some k_ ≠ (.slice Ao26 t946.length co26 : Value).ownBlock) ∧ some k_ ≠ (.slice Ao27 t949.length co27 : Value).ownBlock) ∧ some k_ ≠ (.slice Ao35 t957.length co35 : Value).ownBlock) ∧ some k_ ≠ (.slice Ao36 t960.length co36 : Value).ownBlock)) (n := t970.length) (c := co45) ?_).2.2; exact (rf_ (fm_ (fr_ (fr_ (fr_ (ft_ HO972 BK974) 0 (.slice Ao39 t964.length co39)) 1 (.slice Ao44 t967.length co44)) 2 (.slice Ao45 t970.length co45))))); (case side6 => exact (Kd.R_reads' HO972.out).2.1); (case side7 => refine (Kd.R_reads' (e := 9) (base := w.heap.size) (ok := fun k_ => (((True ∧ some k_ ≠ (.slice Ao18 t934.length co18 : Value).ownBlock) ∧ some k_ ≠ (.slice Ao31 t954.length co31 : Value).ownBlock) ∧ some k_ ≠ (.slice Ao39 t964.length co39 : Value).ownBlock)) (n := t943.length) (c := co23) ?_).2.2; exact (rf_ (fm_ (fr_ (fr_ (fr_ (ft_ HO945 BK974) 0 (.slice Ao39 t964.length co39)) 1 (.slice Ao44 t967.length co44)) 2 (.slice Ao45 t970.length co45))))); (case side8 => exact (Kd.R_reads' HO945.out).2.1); (case side9 => refine (Kd.R_reads' (e := 25) (base := w.heap.size) (ok := fun k_ => ((((((some k_ ≠ (.slice Ao27 t949.length co27 : Value).ownBlock ∧ some k_ ≠ (.slice Ao19 t937.length co19 : Value).ownBlock) ∧ some k_ ≠ (.slice Ao20 t940.length co20 : Value).ownBlock) ∧ some k_ ≠ (.slice Ao35 t957.length co35 : Value).ownBlock) ∧ some k_ ≠ (.slice Ao36 t960.length co36 : Value).ownBlock) ∧ some k_ ≠ (.slice Ao44 t967.length co44 : Value).ownBlock) ∧ some k_ ≠ (.slice Ao45 t970.length co45 : Value).ownBlock)) (n := t946.length) (c := co26) ?_).2.2; exact (rf_ (fm_ (fr_ (fr_ (fr_ (ft_ HO948 BK974) 0 (.slice Ao39 t964.length co39)) 1 (.slice Ao44 t967.length co44)) 2 (.slice Ao45 t970.length co45))))); (case side10 => exact (Kd.R_reads' HO948.out).2.1); (case side11 => refine (Kd.R_reads' (e := 25) (base := w.heap.size) (ok := fun k_ => ((((((some k_ ≠ (.slice Ao26 t946.length co26 : Value).ownBlock ∧ some k_ ≠ (.slice Ao19 t937.length co19 : Value).ownBlock) ∧ some k_ ≠ (.slice Ao20 t940.length co20 : Value).ownBlock) ∧ some k_ ≠ (.slice Ao35 t957.length co35 : Value).ownBlock) ∧ some k_ ≠ (.slice Ao36 t960.length co36 : Value).ownBlock) ∧ some k_ ≠ (.slice Ao44 t967.length co44 : Value).ownBlock) ∧ some k_ ≠ (.slice Ao45 t970.length co45 : Value).ownBlock)) (n := t949.length) (c := co27) ?_).2.2; exact (rf_ (fm_ (fr_ (fr_ (fr_ (ft_ HO951 BK974) 0 (.slice Ao39 t964.length co39)) 1 (.slice Ao44 t967.length co44)) 2 (.slice Ao45 t970.length co45))))); (case side12 => exact (Kd.R_reads' HO951.out).2.1); rintro e w63 ⟨rfl, hb⟩; refine ⟨_, rfl, ?_⟩; have n0_ := Aside0.mk (Kd.R_below (rf_ (fm_ (fr_ (fr_ (fr_ (ft_ HO936 BK974) 0 (.slice Ao39 t964.length co39)) 1 (.slice Ao44 t967.length co44)) 2 (.slice Ao45 t970.length co45)))) hb); have n1_ := Aside0.mk (Kd.R_below (rf_ (fm_ (fr_ (fr_ (fr_ (ft_ HO939 BK974) 0 (.slice Ao39 t964.length co39)) 1 (.slice Ao44 t967.length co44)) 2 (.slice Ao45 t970.length co45)))) hb); have n2_ := Aside0.mk (Kd.R_below (rf_ (fm_ (fr_ (fr_ (fr_ (ft_ HO942 BK974) 0 (.slice Ao39 t964.length co39)) 1 (.slice Ao44 t967.length co44)) 2 (.slice Ao45 t970.length co45)))) hb); have n3_ := Aside0.mk (Kd.R_below (rf_ (fm_ (fr_ (fr_ (fr_ (ft_ HO945 BK974) 0 (.slice Ao39 t964.length co39)) 1 (.slice Ao44 t967.length co44)) 2 (.slice Ao45 t970.length co45)))) hb); have n4_ := Aside0.mk (Kd.R_below (rf_ (fm_ (fr_ (fr_ (fr_ (ft_ HO948 BK974) 0 (.slice Ao39 t964.length co39)) 1 (.slice Ao44 t967.length co44)) 2 (.slice Ao45 t970.length co45)))) hb); have n5_ := Aside0.mk (Kd.R_below (rf_ (fm_ (fr_ (fr_ (fr_ (ft_ HO951 BK974) 0 (.slice Ao39 t964.length co39)) 1 (.slice Ao44 t967.length co44)) 2 (.slice Ao45 t970.length co45)))) hb); have n6_ := Aside0.mk (Kd.R_below (rf_ (fm_ (fr_ (fr_ (fr_ (ft_ HO956 BK974) 0 (.slice Ao39 t964.length co39)) 1 (.slice Ao44 t967.length co44)) 2 (.slice Ao45 t970.length co45)))) hb); have n7_ := Aside0.mk (Kd.R_below (rf_ (fm_ (fr_ (fr_ (fr_ (ft_ HO959 BK974) 0 (.slice Ao39 t964.length co39)) 1 (.slice Ao44 t967.length co44)) 2 (.slice Ao45 t970.length co45)))) hb); have n8_ := Aside0.mk (Kd.R_below (rf_ (fm_ (fr_ (fr_ (fr_ (ft_ HO962 BK974) 0 (.slice Ao39 t964.length co39)) 1 (.slice Ao44 t967.length co44)) 2 (.slice Ao45 t970.length co45)))) hb); have n9_ := Aside0.mk (Kd.R_below (rf_ (fm_ (fr_ (fr_ (fr_ (ft_ HO966 BK974) 0 (.slice Ao39 t964.length co39)) 1 (.slice Ao44 t967.length co44)) 2 (.slice Ao45 t970.length co45)))) hb); have n10_ := Aside0.mk (Kd.R_below (rf_ (fm_ (fr_ (fr_ (fr_ (ft_ HO969 BK974) 0 (.slice Ao39 t964.length co39)) 1 (.slice Ao44 t967.length co44)) 2 (.slice Ao45 t970.length co45)))) hb); have n11_ := Aside0.mk (Kd.R_below (rf_ (fm_ (fr_ (fr_ (fr_ (ft_ HO972 BK974) 0 (.slice Ao39 t964.length co39)) 1 (.slice Ao44 t967.length co44)) 2 (.slice Ao45 t970.length co45)))) hb); have n12_ := Aside0.mk (blk_below (g := gb932) (o := .cells #[.slice A0_0 l0_0.length c0_0, .slice A0_1 l0_1.length c0_1, .slice A0_2 l0_2.length c0_2] 45 (0, 0)) (by (with_reducible repeat (first | apply lN_ | apply lD_ | apply lA_)); refine blk_far ?_ NB932_974.out _; (with_reducible repeat (first | apply lN_ | apply lD_ | apply lA_)); refine blk_far ?_ NB932_974.out _; (with_reducible repeat (first | apply lN_ | apply lD_ | apply lA_)); refine blk_far ?_ NB932_974.out _; (with_reducible repeat (first | apply lN_ | apply lD_ | apply lA_)); exact BK932.out) hb); have n13_ := Aside0.mk (blk_below (g := gb953) (o := .cells #[.slice Ao23 t943.length co23, .slice Ao26 t946.length co26, .slice Ao27 t949.length co27] 35 (0, 0)) (by (with_reducible repeat (first | apply lN_ | apply lD_ | apply lA_)); refine blk_far ?_ NB953_974.out _; (with_reducible repeat (first | apply lN_ | apply lD_ | apply lA_)); refine blk_far ?_ NB953_974.out _; (with_reducible repeat (first | apply lN_ | apply lD_ | apply lA_)); refine blk_far ?_ NB953_974.out _; (with_reducible repeat (first | apply lN_ | apply lD_ | apply lA_)); exact BK953.out) hb); have n14_ := Aside0.mk (blk_below (g := gb963) (o := .cells #[.slice Ao31 t954.length co31, .slice Ao35 t957.length co35, .slice Ao36 t960.length co36] 35 (0, 0)) (by (with_reducible repeat (first | apply lN_ | apply lD_ | apply lA_)); refine blk_far ?_ NB963_974.out _; (with_reducible repeat (first | apply lN_ | apply lD_ | apply lA_)); refine blk_far ?_ NB963_974.out _; (with_reducible repeat (first | apply lN_ | apply lD_ | apply lA_)); refine blk_far ?_ NB963_974.out _; (with_reducible repeat (first | apply lN_ | apply lD_ | apply lA_)); exact BK963.out) hb); have n15_ := Aside0.mk (blk_below (g := gb974) (o := .cells #[.slice Ao39 t964.length co39, .slice Ao44 t967.length co44, .slice Ao45 t970.length co45] 35 (0, 0)) (by (with_reducible repeat (first | apply lN_ | apply lD_ | apply lA_)); refine blk_put (cs := #[.slice Ao39 t964.length co39, .slice Ao44 t967.length co44, .slice none 0 0]) ?_ 2 _ rfl; (with_reducible repeat (first | apply lN_ | apply lD_ | apply lA_)); refine blk_put (cs := #[.slice Ao39 t964.length co39, .slice none 0 0, .slice none 0 0]) ?_ 1 _ rfl; (with_reducible repeat (first | apply lN_ | apply lD_ | apply lA_)); refine blk_put (cs := #[.slice none 0 0, .slice none 0 0, .slice none 0 0]) ?_ 0 _ rfl; (with_reducible repeat (first | apply lN_ | apply lD_ | apply lA_)); exact BK974.out) hb); have n16_ := Aside0.mk (below_step (bb4_ HB GE932 GE953 GE963 GE974) hb); clear HO936; clear HO939; clear HO942; clear HO945; clear HO948; clear HO951; clear HO956; clear HO959; clear HO962; clear HO966; clear HO969; clear HO972; clear BK932; clear BK953; clear BK963; clear BK974; clear HB; have HO936 := n0_; have HO939 := n1_; have HO942 := n2_; have HO945 := n3_; have HO948 := n4_; have HO951 := n5_; have HO956 := n6_; have HO959 := n7_; have HO962 := n8_; have HO966 := n9_; have HO969 := n10_; have HO972 := n11_; have BK932 := n12_; have BK953 := n13_; have BK963 := n14_; have BK974 := n15_; have HB := n16_; clear n0_ n1_ n2_ n3_ n4_ n5_ n6_ n7_ n8_ n9_ n10_ n11_ n12_ n13_ n14_ n15_ n16_; (try clear hb); (try clear hb2); (try clear hk); (try clear hi)))
    go_meet
    case rel => exact ⟨_, (true), (by first | rfl | (simp; done) | (simp [*]; done)), H', ⟨by first | omega | exact Nat.le_refl _⟩, ⟨by (with_reducible repeat (first | apply rA_ | apply rN_ | apply rD_)); exact Kd.R_mono HO945.out (fun _ hk => ⟨hk.1.2, hk.2⟩)⟩, ⟨by (with_reducible repeat (first | apply rA_ | apply rN_ | apply rD_)); exact Kd.R_mono HO948.out (fun _ hk => ⟨hk.1.1.1.1.1.1, ⟨hk.1.1.1.2, ⟨hk.1.1.2, ⟨hk.1.2, hk.2⟩⟩⟩⟩)⟩, ⟨by (with_reducible repeat (first | apply rA_ | apply rN_ | apply rD_)); exact Kd.R_mono HO951.out (fun _ hk => ⟨hk.1.1.1.1.1.1, ⟨hk.1.1.1.2, ⟨hk.1.1.2, ⟨hk.1.2, hk.2⟩⟩⟩⟩)⟩, ⟨by (with_reducible repeat (first | apply rA_ | apply rN_ | apply rD_)); exact Kd.R_mono HO956.out (fun _ hk => ⟨hk.1.2, hk.2⟩)⟩, ⟨by (with_reducible repeat (first | apply rA_ | apply rN_ | apply rD_)); exact Kd.R_mono HO959.out (fun _ hk => ⟨hk.1.1.1.2, ⟨hk.1.1.2, ⟨hk.1.1.1.1.1.1, ⟨hk.1.2, hk.2⟩⟩⟩⟩)⟩, ⟨by (with_reducible repeat (first | apply rA_ | apply rN_ | apply rD_)); exact Kd.R_mono HO962.out (fun _ hk => ⟨hk.1.1.1.2, ⟨hk.1.1.2, ⟨hk.1.1.1.1.1.1, ⟨hk.1.2, hk.2⟩⟩⟩⟩)⟩, ⟨by (with_reducible repeat (first | apply rA_ | apply rN_ | apply rD_)); exact Kd.R_mono HO966.out (fun _ hk => ⟨hk.1.2, hk.2⟩)⟩, ⟨by (with_reducible repeat (first | apply rA_ | apply rN_ | apply rD_)); exact Kd.R_mono HO969.out (fun _ hk => ⟨hk.1.1.1.2, ⟨hk.1.1.2, ⟨hk.1.2, ⟨hk.2, hk.1.1.1.1.1.1⟩⟩⟩⟩)⟩, ⟨by (with_reducible repeat (first | apply rA_ | apply rN_ | apply rD_)); exact Kd.R_mono HO972.out (fun _ hk => ⟨hk.1.1.1.2, ⟨hk.1.1.2, ⟨hk.1.2, ⟨hk.2, hk.1.1.1.1.1.1⟩⟩⟩⟩)⟩, ⟨by (with_reducible repeat (first | apply lN_ | apply lD_ | apply lA_)); exact BK932.out⟩, ⟨by (with_reducible repeat (first | apply lN_ | apply lD_ | apply lA_)); exact BK953.out⟩, ⟨by (with_reducible repeat (first | apply lN_ | apply lD_ | apply lA_)); exact BK963.out⟩, ⟨by (with_reducible repeat (first | apply lN_ | apply lD_ | apply lA_)); exact BK974.out⟩, ⟨bb4_ HB GE932 GE953 GE963 GE974⟩⟩
  case rest =>
   clear HC12
   try clear c1
   try clear c2
   try clear p2
   try clear c3
   try clear c4
   try clear c4b0
   try clear c5
   try clear c6
   try clear c10
   try clear c23
   try clear c24
   try clear c28
   try clear c30
   try clear c32
   try clear c33
   try clear c40
   try clear c41
   try clear c42
   try clear c47
   try clear c48
   try clear c49
   try clear c50
   try clear c52
   try clear c53
   try clear c56
   try clear c57
   try clear c58
   try clear c60
   try clear c61
   try clear hcz14_0
   try clear hcz14_1
   try clear hcz14_2
   try clear hcz16_0
   try clear hcz16_1
   try clear hcz16_2
   try clear hcz25_0
   try clear hcz25_1
   try clear hcz25_2
   try clear hcz28_0
   try clear hcz28_1
   try clear hcz28_2
   try clear hcz34_0
   try clear hcz34_1
   try clear hcz34_2
   try clear hcz43_0
   try clear hcz43_1
   try clear hcz43_2
   try clear hcz51_0
   try clear hcz51_1
   try clear hcz51_2
   try clear hcz54_0
   try clear hcz54_1
   try clear hcz54_2
   try clear hcz59_0
   try clear hcz59_1
   try clear hcz59_2
   try clear hcz62_0
   try clear hcz62_1
   try clear hcz62_2
   try clear hcz6_0
   try clear hcz6_1
   try clear hcz6_2
   try clear hfz14_0
   try clear hfz14_1
   try clear hfz14_2
   try clear hfz16_0
   try clear hfz16_1
   try clear hfz16_2
   try clear hfz25_0
   try clear hfz25_1
   try clear hfz25_2
   try clear hfz28_0
   try clear hfz28_1
   try clear hfz28_2
   try clear hfz34_0
   try clear hfz34_1
   try clear hfz34_2
   try clear hfz43_0
   try clear hfz43_1
   try clear hfz43_2
   try clear hfz51_0
   try clear hfz51_1
   try clear hfz51_2
   try clear hfz54_0
   try clear hfz54_1
   try clear hfz54_2
   try clear hfz59_0
   try clear hfz59_1
   try clear hfz59_2
   try clear hfz62_0
   try clear hfz62_1
   try clear hfz62_2
   try clear hfz6_0
   try clear hfz6_1
   try clear hfz6_2
   obtain ⟨kq, x44_11, rfl, HA, HJ11, HO_954000, HO_954001, HO_954002, HO_964000, HO_964001, HO_964002, HO_975000, HO_975001, HO_975002, BK932, BK953, BK963, BK974, HB⟩ := hcut
   cases kq with
   | zero => exact absurd HA.out (by simp [laws_FnExactForgetEdits.j0])
   | succ kj11 =>
    have H := HA.out
    clear HA
    simp only [laws_FnExactForgetEdits.j0] at H
    by_cases c64 : x44_11 = true
    ·subst c64
     have H1 : (none) = some r := by rw [if_pos rfl] at H; exact H
     clear H
     have H := H1
     clear H1
     exact absurd H (by simp)
    ·replace c64 := Bool.eq_false_iff.mpr c64
     subst c64
     have H1 : ((laws_toDesk.f kj11 l0_0 l0_1 l0_2).bind fun bt976 => ((laws_eqDesk.f kj11 t954 t957 t960 bt976.1 bt976.2.1 bt976.2.2).bind fun t985 => (if t985 = true then ((laws_markDesk.f kj11 t954 t957 t960 1).bind fun bt986 => (if bt986.1 < 0 then (laws_FnExactForgetEdits.j1 kj11 a1 t952 true l0_0 l0_1 l0_2 t943 t946 t949 t964 t967 t970) else ((laws_eqDesk.f kj11 t964 t967 t970 t943 t946 t949).bind fun t990 => (if t990 = true then (laws_FnExactForgetEdits.j1 kj11 a1 t952 (t973 != t952) l0_0 l0_1 l0_2 t943 t946 t949 t964 t967 t970) else (laws_FnExactForgetEdits.j1 kj11 a1 t952 true l0_0 l0_1 l0_2 t943 t946 t949 t964 t967 t970))))) else (none)))) = some r := by rw [if_neg (show ¬ (false = true) by decide)] at H; exact H
     clear H
     have H := H1
     clear H1
     replace H := Option.bind_eq_some_iff.mp H
     obtain ⟨⟨t976, t979, t982⟩, A650, H⟩ := H
     try dsimp only at H
     have A65 := Aside0.mk A650
     clear A650
     replace H := Option.bind_eq_some_iff.mp H
     obtain ⟨t985, A660, H⟩ := H
     try dsimp only at H
     have A66 := Aside0.mk A660
     clear A660
     by_cases c67 : t985 = true
     ·subst c67
      have H1 : ((laws_markDesk.f kj11 t954 t957 t960 1).bind fun bt986 => (if bt986.1 < 0 then (laws_FnExactForgetEdits.j1 kj11 a1 t952 true l0_0 l0_1 l0_2 t943 t946 t949 t964 t967 t970) else ((laws_eqDesk.f kj11 t964 t967 t970 t943 t946 t949).bind fun t990 => (if t990 = true then (laws_FnExactForgetEdits.j1 kj11 a1 t952 (t973 != t952) l0_0 l0_1 l0_2 t943 t946 t949 t964 t967 t970) else (laws_FnExactForgetEdits.j1 kj11 a1 t952 true l0_0 l0_1 l0_2 t943 t946 t949 t964 t967 t970))))) = some r := by rw [if_pos rfl] at H; exact H
      clear H
      have H := H1
      clear H1
      replace H := Option.bind_eq_some_iff.mp H
      obtain ⟨⟨t986, t987, t988, t989⟩, A680, H⟩ := H
      try dsimp only at H
      have A68 := Aside0.mk A680
      clear A680
      have HC69 := Aside0.mk H
      clear H
      try go_wp2
      have n0_ := Aside0.mk (Kd.R_drew HO_954000.out)
      have n1_ := Aside0.mk (Kd.R_drew HO_954001.out)
      have n2_ := Aside0.mk (Kd.R_drew HO_954002.out)
      have n3_ := Aside0.mk (Kd.R_drew HO_964000.out)
      have n4_ := Aside0.mk (Kd.R_drew HO_964001.out)
      have n5_ := Aside0.mk (Kd.R_drew HO_964002.out)
      have n6_ := Aside0.mk (Kd.R_drew HO_975000.out)
      have n7_ := Aside0.mk (Kd.R_drew HO_975001.out)
      have n8_ := Aside0.mk (Kd.R_drew HO_975002.out)
      have n9_ := Aside0.mk (blk_drew BK932.out)
      have n10_ := Aside0.mk (blk_drew BK953.out)
      have n11_ := Aside0.mk (blk_drew BK963.out)
      have n12_ := Aside0.mk (blk_drew BK974.out)
      have n13_ := Aside0.mk (below_drew1 HB.out)
      clear HO_954000
      clear HO_954001
      clear HO_954002
      clear HO_964000
      clear HO_964001
      clear HO_964002
      clear HO_975000
      clear HO_975001
      clear HO_975002
      clear BK932
      clear BK953
      clear BK963
      clear BK974
      clear HB
      have HO_954000 := n0_
      have HO_954001 := n1_
      have HO_954002 := n2_
      have HO_964000 := n3_
      have HO_964001 := n4_
      have HO_964002 := n5_
      have HO_975000 := n6_
      have HO_975001 := n7_
      have HO_975002 := n8_
      have BK932 := n9_
      have BK953 := n10_
      have BK963 := n11_
      have BK974 := n12_
      have HB := n13_
      clear n0_ n1_ n2_ n3_ n4_ n5_ n6_ n7_ n8_ n9_ n10_ n11_ n12_ n13_
      refine start_ (n := 5) (S := fun w' => w'.cell? ⟨gb963, 0, none⟩ = some (.slice Ao31 t954.length co31) ∧ w'.cell? ⟨gb963, 1, none⟩ = some (.slice Ao35 t957.length co35) ∧ w'.cell? ⟨gb963, 2, none⟩ = some (.slice Ao36 t960.length co36) ∧ w'.cell? ⟨gb932, 0, none⟩ = some (.slice A0_0 l0_0.length c0_0) ∧ w'.cell? ⟨gb932, 1, none⟩ = some (.slice A0_1 l0_1.length c0_1) ∧ w'.cell? ⟨gb932, 2, none⟩ = some (.slice A0_2 l0_2.length c0_2)) (ds := []) #[false, false, false, false, false] (by kernel_rfl) rfl rfl ⟨(blk_cell BK963.out 0).trans rfl, (blk_cell BK963.out 1).trans rfl, (blk_cell BK963.out 2).trans rfl, (blk_cell BK932.out 0).trans rfl, (blk_cell BK932.out 1).trans rfl, (blk_cell BK932.out 2).trans rfl⟩ (fun hHeld => ?_)
      generalize wc.drew = w70 at HO_954000 HO_954001 HO_954002 HO_964000 HO_964001 HO_964002 HO_975000 HO_975001 HO_975002 BK932 BK953 BK963 BK974 HB hHeld ⊢
      refine take_ (i := 0) (N := some 45) (v := ?_) (a' := ?_) #[true, false, false, false, false] rfl rfl (by kernel_rfl) (fun _ _ _ h => h) (Or.inl ⟨by rfl, ?_⟩) hHeld ?_ ?_
      rotate_left
      ·rintro w' ⟨s0, s1, s2, s3, s4, s5⟩
       go_simp
       with_reducible rfl
      rotate_left
      ·simp only [Act.put, List.setIfInBounds_toArray, List.set_cons_zero, List.set_cons_succ, i64_w, i32_w]
       rfl
      refine take_ (i := 1) (N := some 46) (v := ?_) (a' := ?_) #[true, true, false, false, false] rfl rfl (by kernel_rfl) (fun _ _ _ h => h) (Or.inl ⟨by rfl, ?_⟩) hHeld ?_ ?_
      rotate_left
      ·rintro w' ⟨s0, s1, s2, s3, s4, s5⟩
       go_simp
       with_reducible rfl
      rotate_left
      ·simp only [Act.put, List.setIfInBounds_toArray, List.set_cons_zero, List.set_cons_succ, i64_w, i32_w]
       rfl
      refine one_ (i := 2) (N := some 47) #[true, true, true, false, false] rfl rfl (by kernel_rfl) (by decide) (fun K hK => ?_)
      refine goes_ Try.func30 (by kernel_rfl) rfl #[.agg #[.slice A0_0 l0_0.length c0_0, .slice A0_1 l0_1.length c0_1, .slice A0_2 l0_2.length c0_2]] (by rfl) rfl rfl args_ ?_
      with_reducible refine (laws_toDesk.calls kj11 _ _ l0_0 _ _ l0_1 _ _ l0_2 t976 t979 t982 _ ?side1 ?side2 ?side3 ?side4 ?side5 ?side6 A65.out).mono ?_
      (case side1 => repeat (first | exact (Kd.C_below HR0_0.out HB.out) | (with_reducible first | apply cA_ | apply cN_ | apply cD_)))
      (case side2 => exact HC0_0.out)
      (case side3 => repeat (first | exact (Kd.C_below HR0_1.out HB.out) | (with_reducible first | apply cA_ | apply cN_ | apply cD_)))
      (case side4 => exact HC0_1.out)
      (case side5 => repeat (first | exact (Kd.C_below HR0_2.out HB.out) | (with_reducible first | apply cA_ | apply cN_ | apply cD_)))
      (case side6 => exact HC0_2.out)
      rintro e w71 ⟨v977, v980, v983, rfl, ho0, ho1, ho2, hb⟩
      refine ⟨_, rfl, ?_⟩
      have n0_ := Aside0.mk (Kd.R_elder' (ra_ HO_954000) (Kd.R_base ho0) hb)
      have n1_ := Aside0.mk (Kd.R_mono (Kd.R_told (Kd.R_told (Kd.R_old (ra_ HO_954001) hb) (Kd.R_base ho1)) (Kd.R_base ho2)) (fun _ h_ => h_.1))
      have n2_ := Aside0.mk (Kd.R_mono (Kd.R_told (Kd.R_told (Kd.R_old (ra_ HO_954002) hb) (Kd.R_base ho1)) (Kd.R_base ho2)) (fun _ h_ => h_.1))
      have n3_ := Aside0.mk (Kd.R_elder' (ra_ HO_964000) (Kd.R_base ho0) hb)
      have n4_ := Aside0.mk (Kd.R_mono (Kd.R_told (Kd.R_told (Kd.R_old (ra_ HO_964001) hb) (Kd.R_base ho1)) (Kd.R_base ho2)) (fun _ h_ => h_.1))
      have n5_ := Aside0.mk (Kd.R_mono (Kd.R_told (Kd.R_told (Kd.R_old (ra_ HO_964002) hb) (Kd.R_base ho1)) (Kd.R_base ho2)) (fun _ h_ => h_.1))
      have n6_ := Aside0.mk (Kd.R_elder' (ra_ HO_975000) (Kd.R_base ho0) hb)
      have n7_ := Aside0.mk (Kd.R_mono (Kd.R_told (Kd.R_told (Kd.R_old (ra_ HO_975001) hb) (Kd.R_base ho1)) (Kd.R_base ho2)) (fun _ h_ => h_.1))
      have n8_ := Aside0.mk (Kd.R_mono (Kd.R_told (Kd.R_told (Kd.R_old (ra_ HO_975002) hb) (Kd.R_base ho1)) (Kd.R_base ho2)) (fun _ h_ => h_.1))
      have n9_ := Aside0.mk (Kd.R_lower (Kd.R_new' (Kd.R_new' (Kd.R_new' ho0 (Kd.R_lt (ra_ HO_954000))) (Kd.R_lt (ra_ HO_964000))) (Kd.R_lt (ra_ HO_975000))) (below_size (bb4_ HB GE932 GE953 GE963 GE974)))
      have n10_ := Aside0.mk (Kd.R_lower (Kd.R_new' (Kd.R_new' (Kd.R_new' (Kd.R_new' (Kd.R_new' (Kd.R_new' ho1 (Kd.R_lt (ra_ HO_954001))) (Kd.R_lt (ra_ HO_954002))) (Kd.R_lt (ra_ HO_964001))) (Kd.R_lt (ra_ HO_964002))) (Kd.R_lt (ra_ HO_975001))) (Kd.R_lt (ra_ HO_975002))) (below_size (bb4_ HB GE932 GE953 GE963 GE974)))
      have n11_ := Aside0.mk (Kd.R_lower (Kd.R_new' (Kd.R_new' (Kd.R_new' (Kd.R_new' (Kd.R_new' (Kd.R_new' ho2 (Kd.R_lt (ra_ HO_954001))) (Kd.R_lt (ra_ HO_954002))) (Kd.R_lt (ra_ HO_964001))) (Kd.R_lt (ra_ HO_964002))) (Kd.R_lt (ra_ HO_975001))) (Kd.R_lt (ra_ HO_975002))) (below_size (bb4_ HB GE932 GE953 GE963 GE974)))
      have n12_ := Aside0.mk (lb_ BK932 hb)
      have n13_ := Aside0.mk (lb_ BK953 hb)
      have n14_ := Aside0.mk (lb_ BK963 hb)
      have n15_ := Aside0.mk (lb_ BK974 hb)
      have n16_ := Aside0.mk (below_step (bb4_ HB GE932 GE953 GE963 GE974) hb)
      clear HO_954000
      clear HO_954001
      clear HO_954002
      clear HO_964000
      clear HO_964001
      clear HO_964002
      clear HO_975000
      clear HO_975001
      clear HO_975002
      clear BK932
      clear BK953
      clear BK963
      clear BK974
      clear HB
      have HO_954000 := n0_
      have HO_954001 := n1_
      have HO_954002 := n2_
      have HO_964000 := n3_
      have HO_964001 := n4_
      have HO_964002 := n5_
      have HO_975000 := n6_
      have HO_975001 := n7_
      have HO_975002 := n8_
      have HO978 := n9_
      have HO981 := n10_
      have HO984 := n11_
      have BK932 := n12_
      have BK953 := n13_
      have BK963 := n14_
      have BK974 := n15_
      have HB := n16_
      clear n0_ n1_ n2_ n3_ n4_ n5_ n6_ n7_ n8_ n9_ n10_ n11_ n12_ n13_ n14_ n15_ n16_
      (try clear hb)
      (try clear hb2)
      (try clear hk)
      (try clear hi)
      (try clear ho0)
      (try clear ho1)
      (try clear ho2)
      obtain ⟨Ao72, co72, eo72⟩ := Kd.R_slice HO978.out
      (first | subst eo72 | (injection eo72 with f1_ f2_ f3_; have f4_ := f1_.symm; have f5_ := f3_.symm; clear f1_ f2_ f3_; subst f4_; subst f5_))
      obtain ⟨Ao73, co73, eo73⟩ := Kd.R_slice HO981.out
      (first | subst eo73 | (injection eo73 with f1_ f2_ f3_; have f4_ := f1_.symm; have f5_ := f3_.symm; clear f1_ f2_ f3_; subst f4_; subst f5_))
      obtain ⟨Ao74, co74, eo74⟩ := Kd.R_slice HO984.out
      (first | subst eo74 | (injection eo74 with f1_ f2_ f3_; have f4_ := f1_.symm; have f5_ := f3_.symm; clear f1_ f2_ f3_; subst f4_; subst f5_))
      refine hK.out _ _ ⟨(blk_cell BK963.out 0).trans rfl, (blk_cell BK963.out 1).trans rfl, (blk_cell BK963.out 2).trans rfl, (blk_cell BK932.out 0).trans rfl, (blk_cell BK932.out 1).trans rfl, (blk_cell BK932.out 2).trans rfl⟩ (fun hHeld => ?_)
      clear hK K
      refine norm_ (a' := ?_) ?_ ?_
      rotate_left
      ·show Act.put _ (some 47) _ = _
       simp only [Act.put, List.setIfInBounds_toArray, List.set_cons_zero, List.set_cons_succ, i64_w, i32_w]
       rfl
      refine one_ (i := 3) (N := some 48) #[true, true, true, true, false] rfl rfl (by kernel_rfl) (by decide) (fun K hK => ?_)
      refine goes_ Try.func23 (by kernel_rfl) rfl #[.agg #[.slice Ao31 t954.length co31, .slice Ao35 t957.length co35, .slice Ao36 t960.length co36], .agg #[.slice Ao72 t976.length co72, .slice Ao73 t979.length co73, .slice Ao74 t982.length co74]] (by rfl) rfl rfl args_ ?_
      with_reducible refine (laws_eqDesk.calls kj11 _ _ t954 _ _ t957 _ _ t960 _ _ t976 _ _ t979 _ _ t982 true _ ?side1 ?side2 ?side3 ?side4 ?side5 ?side6 ?side7 ?side8 ?side9 ?side10 ?side11 ?side12 A66.out).mono ?_
      (case side1 => repeat (first | exact (Kd.R_reads' HO_964000.out).2.2 | (with_reducible first | apply cA_ | apply cN_ | apply cD_)))
      (case side2 => exact (Kd.R_reads' HO_964000.out).2.1)
      (case side3 => repeat (first | exact (Kd.R_reads' HO_964001.out).2.2 | (with_reducible first | apply cA_ | apply cN_ | apply cD_)))
      (case side4 => exact (Kd.R_reads' HO_964001.out).2.1)
      (case side5 => repeat (first | exact (Kd.R_reads' HO_964002.out).2.2 | (with_reducible first | apply cA_ | apply cN_ | apply cD_)))
      (case side6 => exact (Kd.R_reads' HO_964002.out).2.1)
      (case side7 => repeat (first | exact (Kd.R_reads' HO978.out).2.2 | (with_reducible first | apply cA_ | apply cN_ | apply cD_)))
      (case side8 => exact (Kd.R_reads' HO978.out).2.1)
      (case side9 => repeat (first | exact (Kd.R_reads' HO981.out).2.2 | (with_reducible first | apply cA_ | apply cN_ | apply cD_)))
      (case side10 => exact (Kd.R_reads' HO981.out).2.1)
      (case side11 => repeat (first | exact (Kd.R_reads' HO984.out).2.2 | (with_reducible first | apply cA_ | apply cN_ | apply cD_)))
      (case side12 => exact (Kd.R_reads' HO984.out).2.1)
      rintro e w75 ⟨rfl, hb⟩
      refine ⟨_, rfl, ?_⟩
      have n0_ := Aside0.mk (Kd.R_below (ra_ HO_954000) hb)
      have n1_ := Aside0.mk (Kd.R_below (ra_ HO_954001) hb)
      have n2_ := Aside0.mk (Kd.R_below (ra_ HO_954002) hb)
      have n3_ := Aside0.mk (Kd.R_below (ra_ HO_964000) hb)
      have n4_ := Aside0.mk (Kd.R_below (ra_ HO_964001) hb)
      have n5_ := Aside0.mk (Kd.R_below (ra_ HO_964002) hb)
      have n6_ := Aside0.mk (Kd.R_below (ra_ HO_975000) hb)
      have n7_ := Aside0.mk (Kd.R_below (ra_ HO_975001) hb)
      have n8_ := Aside0.mk (Kd.R_below (ra_ HO_975002) hb)
      have n9_ := Aside0.mk (Kd.R_below (ra_ HO978) hb)
      have n10_ := Aside0.mk (Kd.R_below (ra_ HO981) hb)
      have n11_ := Aside0.mk (Kd.R_below (ra_ HO984) hb)
      have n12_ := Aside0.mk (lb_ BK932 hb)
      have n13_ := Aside0.mk (lb_ BK953 hb)
      have n14_ := Aside0.mk (lb_ BK963 hb)
      have n15_ := Aside0.mk (lb_ BK974 hb)
      have n16_ := Aside0.mk (below_step (bb4_ HB GE932 GE953 GE963 GE974) hb)
      clear HO_954000
      clear HO_954001
      clear HO_954002
      clear HO_964000
      clear HO_964001
      clear HO_964002
      clear HO_975000
      clear HO_975001
      clear HO_975002
      clear HO978
      clear HO981
      clear HO984
      clear BK932
      clear BK953
      clear BK963
      clear BK974
      clear HB
      have HO_954000 := n0_
      have HO_954001 := n1_
      have HO_954002 := n2_
      have HO_964000 := n3_
      have HO_964001 := n4_
      have HO_964002 := n5_
      have HO_975000 := n6_
      have HO_975001 := n7_
      have HO_975002 := n8_
      have HO978 := n9_
      have HO981 := n10_
      have HO984 := n11_
      have BK932 := n12_
      have BK953 := n13_
      have BK963 := n14_
      have BK974 := n15_
      have HB := n16_
      clear n0_ n1_ n2_ n3_ n4_ n5_ n6_ n7_ n8_ n9_ n10_ n11_ n12_ n13_ n14_ n15_ n16_
      (try clear hb)
      (try clear hb2)
      (try clear hk)
      (try clear hi)
      refine hK.out _ _ ⟨(blk_cell BK963.out 0).trans rfl, (blk_cell BK963.out 1).trans rfl, (blk_cell BK963.out 2).trans rfl, (blk_cell BK932.out 0).trans rfl, (blk_cell BK932.out 1).trans rfl, (blk_cell BK932.out 2).trans rfl⟩ (fun hHeld => ?_)
      clear hK K
      refine norm_ (a' := ?_) ?_ ?_
      rotate_left
      ·show Act.put _ (some 48) _ = _
       simp only [Act.put, List.setIfInBounds_toArray, List.set_cons_zero, List.set_cons_succ, i64_w, i32_w]
       rfl
      refine pure_ (i := 4) (N := some 49) (v := ?_) (a' := ?_) #[true, true, true, true, true] rfl rfl (by kernel_rfl) (fun _ _ _ h => h) (Or.inl ⟨by rfl, ?_⟩) ?_ ?_
      rotate_left
      ·intro w'
       go_simp
       with_reducible rfl
      rotate_left
      ·simp only [Act.put, List.setIfInBounds_toArray, List.set_cons_zero, List.set_cons_succ, i64_w, i32_w]
       rfl
      refine done_ (by kernel_rfl) ?_
      have hnb76 := NB963_932.out
      have hnc76 := NB932_963.out
      have hnb77 := NB963_953.out
      have hnc77 := NB953_963.out
      have hnb78 := NB963_974.out
      have hnc78 := NB974_963.out
      have hcz79_0 : w75.cell? ⟨gb963, 0, none⟩ = some (.slice Ao31 t954.length co31) := (blk_cell BK963.out 0).trans rfl
      have hcz79_1 : w75.cell? ⟨gb963, 1, none⟩ = some (.slice Ao35 t957.length co35) := (blk_cell BK963.out 1).trans rfl
      have hcz79_2 : w75.cell? ⟨gb963, 2, none⟩ = some (.slice Ao36 t960.length co36) := (blk_cell BK963.out 2).trans rfl
      have hfz79_0 := blk_frozen BK963.out 0
      have hfz79_1 := blk_frozen BK963.out 1
      have hfz79_2 := blk_frozen BK963.out 2
      go_upto_region 14 with (first | ((with_reducible refine gate_callee (f := 26) rfl ?_); refine goesL_ (some 52) rfl rfl Try.func26 (by kernel_rfl) rfl #[.agg #[.slice Ao31 t954.length co31, .slice Ao35 t957.length co35, .slice Ao36 t960.length co36], .int .i64 1] rfl args_ ?_; (with_reducible refine (laws_markDesk.calls kj11 (fun k_ => some k_ = (.slice Ao31 t954.length co31 : Value).ownBlock) (.slice Ao31 t954.length co31) t954 (fun k_ => some k_ = (.slice Ao35 t957.length co35 : Value).ownBlock) (.slice Ao35 t957.length co35) t957 (fun k_ => some k_ = (.slice Ao36 t960.length co36 : Value).ownBlock) (.slice Ao36 t960.length co36) t960 1 t986 t987 t988 t989 w _ ?side1 ?side2 ?side3 ?side4 ?side5 ?side6 A68.out).mono ?_); (case side1 => repeat (first | (with_reducible first | exact HB.out | apply bA_ | apply bN_ | apply bD_ | refine bS_ ?_ GE932.out | refine bS_ ?_ GE953.out | refine bS_ ?_ GE963.out | refine bS_ ?_ GE974.out) | exact HB.out)); (case side2 => exact Kd.R_tight rfl HO_964000.out); (case side3 => exact Kd.R_tight rfl HO_964001.out); (case side4 => exact fun k_ e_ => (HO_964001.out.1 k_ e_.symm).1.1.2.2.1); (case side5 => exact Kd.R_tight rfl HO_964002.out); (case side6 => exact fun k_ e_ => (HO_964002.out.1 k_ e_.symm).1.1.2.2.1); rintro e w80 ⟨rfl, hy0, hy1, hy2, hb, hkp⟩; refine ⟨_, rfl, ?_⟩; have n0_ := Aside0.mk (Kd.R_mono (ok' := fun k_ => some k_ ≠ (.slice Ao31 t954.length co31 : Value).ownBlock ∧ some k_ ≠ (.slice Ao39 t964.length co39 : Value).ownBlock ∧ some k_ ≠ (.slice Ao72 t976.length co72 : Value).ownBlock) (Kd.R_keptB ((Kd.R_apart' (Kd.R_apart' HO_954000.out (Kd.R_typed HO_964001.out) (by decide)) (Kd.R_typed HO_964002.out) (by decide))) hkp (fun k_ hk_ hs_ => Or.elim hs_ (fun e_ => (hk_.1.1.1.1) e_) (fun e_ => Or.elim e_ (fun e_ => (hk_.1.2) e_) (fun e_ => (hk_.2) e_)))) (fun k_ hk_ => ⟨hk_.1.1.1.1.1, hk_.1.1.1.1.2, hk_.1.1.1.2⟩)); have n1_ := Aside0.mk (Kd.R_mono (ok' := fun k_ => some k_ ≠ (.slice Ao27 t949.length co27 : Value).ownBlock ∧ some k_ ≠ (.slice Ao35 t957.length co35 : Value).ownBlock ∧ some k_ ≠ (.slice Ao36 t960.length co36 : Value).ownBlock ∧ some k_ ≠ (.slice Ao44 t967.length co44 : Value).ownBlock ∧ some k_ ≠ (.slice Ao45 t970.length co45 : Value).ownBlock ∧ some k_ ≠ (.slice Ao73 t979.length co73 : Value).ownBlock ∧ some k_ ≠ (.slice Ao74 t982.length co74 : Value).ownBlock) (Kd.R_keptB ((Kd.R_apart' HO_954001.out (Kd.R_typed HO_964000.out) (by decide))) hkp (fun k_ hk_ hs_ => Or.elim hs_ (fun e_ => (hk_.2) e_) (fun e_ => Or.elim e_ (fun e_ => (hk_.1.1.1.2.1) e_) (fun e_ => (hk_.1.1.1.2.2.1) e_)))) (fun k_ hk_ => ⟨hk_.1.1.1.1.1, hk_.1.1.1.1.2.1, hk_.1.1.1.1.2.2.1, hk_.1.1.1.1.2.2.2.1, hk_.1.1.1.1.2.2.2.2, hk_.1.1.1.2, hk_.1.1.2⟩)); have n2_ := Aside0.mk (Kd.R_mono (ok' := fun k_ => some k_ ≠ (.slice Ao26 t946.length co26 : Value).ownBlock ∧ some k_ ≠ (.slice Ao35 t957.length co35 : Value).ownBlock ∧ some k_ ≠ (.slice Ao36 t960.length co36 : Value).ownBlock ∧ some k_ ≠ (.slice Ao44 t967.length co44 : Value).ownBlock ∧ some k_ ≠ (.slice Ao45 t970.length co45 : Value).ownBlock ∧ some k_ ≠ (.slice Ao73 t979.length co73 : Value).ownBlock ∧ some k_ ≠ (.slice Ao74 t982.length co74 : Value).ownBlock) (Kd.R_keptB ((Kd.R_apart' HO_954002.out (Kd.R_typed HO_964000.out) (by decide))) hkp (fun k_ hk_ hs_ => Or.elim hs_ (fun e_ => (hk_.2) e_) (fun e_ => Or.elim e_ (fun e_ => (hk_.1.1.1.2.1) e_) (fun e_ => (hk_.1.1.1.2.2.1) e_)))) (fun k_ hk_ => ⟨hk_.1.1.1.1.1, hk_.1.1.1.1.2.1, hk_.1.1.1.1.2.2.1, hk_.1.1.1.1.2.2.2.1, hk_.1.1.1.1.2.2.2.2, hk_.1.1.1.2, hk_.1.1.2⟩)); have n3_ := Aside0.mk (Kd.R_reok rfl hy0 (fun k_ e_ => HO_964000.out.1 k_ e_)); have n4_ := Aside0.mk (Kd.R_reok rfl hy1 (fun k_ e_ => HO_964001.out.1 k_ e_)); have n5_ := Aside0.mk (Kd.R_reok rfl hy2 (fun k_ e_ => HO_964002.out.1 k_ e_)); have n6_ := Aside0.mk (Kd.R_mono (ok' := fun k_ => some k_ ≠ (.slice Ao23 t943.length co23 : Value).ownBlock ∧ some k_ ≠ (.slice Ao31 t954.length co31 : Value).ownBlock ∧ some k_ ≠ (.slice Ao72 t976.length co72 : Value).ownBlock) (Kd.R_keptB ((Kd.R_apart' (Kd.R_apart' HO_975000.out (Kd.R_typed HO_964001.out) (by decide)) (Kd.R_typed HO_964002.out) (by decide))) hkp (fun k_ hk_ hs_ => Or.elim hs_ (fun e_ => (hk_.1.1.1.2) e_) (fun e_ => Or.elim e_ (fun e_ => (hk_.1.2) e_) (fun e_ => (hk_.2) e_)))) (fun k_ hk_ => ⟨hk_.1.1.1.1.1, hk_.1.1.1.1.2, hk_.1.1.1.2⟩)); have n7_ := Aside0.mk (Kd.R_mono (ok' := fun k_ => some k_ ≠ (.slice Ao26 t946.length co26 : Value).ownBlock ∧ some k_ ≠ (.slice Ao27 t949.length co27 : Value).ownBlock ∧ some k_ ≠ (.slice Ao35 t957.length co35 : Value).ownBlock ∧ some k_ ≠ (.slice Ao36 t960.length co36 : Value).ownBlock ∧ some k_ ≠ (.slice Ao45 t970.length co45 : Value).ownBlock ∧ some k_ ≠ (.slice Ao73 t979.length co73 : Value).ownBlock ∧ some k_ ≠ (.slice Ao74 t982.length co74 : Value).ownBlock) (Kd.R_keptB ((Kd.R_apart' HO_975001.out (Kd.R_typed HO_964000.out) (by decide))) hkp (fun k_ hk_ hs_ => Or.elim hs_ (fun e_ => (hk_.2) e_) (fun e_ => Or.elim e_ (fun e_ => (hk_.1.1.1.2.2.1) e_) (fun e_ => (hk_.1.1.1.2.2.2.1) e_)))) (fun k_ hk_ => ⟨hk_.1.1.1.1.1, hk_.1.1.1.1.2.1, hk_.1.1.1.1.2.2.1, hk_.1.1.1.1.2.2.2.1, hk_.1.1.1.1.2.2.2.2, hk_.1.1.1.2, hk_.1.1.2⟩)); have n8_ := Aside0.mk (Kd.R_mono (ok' := fun k_ => some k_ ≠ (.slice Ao26 t946.length co26 : Value).ownBlock ∧ some k_ ≠ (.slice Ao27 t949.length co27 : Value).ownBlock ∧ some k_ ≠ (.slice Ao35 t957.length co35 : Value).ownBlock ∧ some k_ ≠ (.slice Ao36 t960.length co36 : Value).ownBlock ∧ some k_ ≠ (.slice Ao44 t967.length co44 : Value).ownBlock ∧ some k_ ≠ (.slice Ao73 t979.length co73 : Value).ownBlock ∧ some k_ ≠ (.slice Ao74 t982.length co74 : Value).ownBlock) (Kd.R_keptB ((Kd.R_apart' HO_975002.out (Kd.R_typed HO_964000.out) (by decide))) hkp (fun k_ hk_ hs_ => Or.elim hs_ (fun e_ => (hk_.2) e_) (fun e_ => Or.elim e_ (fun e_ => (hk_.1.1.1.2.2.1) e_) (fun e_ => (hk_.1.1.1.2.2.2.1) e_)))) (fun k_ hk_ => ⟨hk_.1.1.1.1.1, hk_.1.1.1.1.2.1, hk_.1.1.1.1.2.2.1, hk_.1.1.1.1.2.2.2.1, hk_.1.1.1.1.2.2.2.2, hk_.1.1.1.2, hk_.1.1.2⟩)); have n9_ := Aside0.mk (blk_kept (la_ BK932) hkp (fun hs_ => Or.elim hs_ (fun e_ => (fun e_ => (Kd.R_ne HO_964000.out BK932.out (by decide)) e_) e_) (fun e_ => Or.elim e_ (fun e_ => (fun e_ => (Kd.R_ne HO_964001.out BK932.out (by decide)) e_) e_) (fun e_ => (fun e_ => (Kd.R_ne HO_964002.out BK932.out (by decide)) e_) e_)))); have n10_ := Aside0.mk (blk_kept (la_ BK953) hkp (fun hs_ => Or.elim hs_ (fun e_ => (fun e_ => (Kd.R_ne HO_964000.out BK953.out (by decide)) e_) e_) (fun e_ => Or.elim e_ (fun e_ => (fun e_ => (Kd.R_ne HO_964001.out BK953.out (by decide)) e_) e_) (fun e_ => (fun e_ => (Kd.R_ne HO_964002.out BK953.out (by decide)) e_) e_)))); have n11_ := Aside0.mk (blk_kept (la_ BK963) hkp (fun hs_ => Or.elim hs_ (fun e_ => (fun e_ => (Kd.R_ne HO_964000.out BK963.out (by decide)) e_) e_) (fun e_ => Or.elim e_ (fun e_ => (fun e_ => (Kd.R_ne HO_964001.out BK963.out (by decide)) e_) e_) (fun e_ => (fun e_ => (Kd.R_ne HO_964002.out BK963.out (by decide)) e_) e_)))); have n12_ := Aside0.mk (blk_kept (la_ BK974) hkp (fun hs_ => Or.elim hs_ (fun e_ => (fun e_ => (Kd.R_ne HO_964000.out BK974.out (by decide)) e_) e_) (fun e_ => Or.elim e_ (fun e_ => (fun e_ => (Kd.R_ne HO_964001.out BK974.out (by decide)) e_) e_) (fun e_ => (fun e_ => (Kd.R_ne HO_964002.out BK974.out (by decide)) e_) e_)))); have n13_ := Aside0.mk (Kd.R_mono (ok' := fun k_ => some k_ ≠ (.slice Ao23 t943.length co23 : Value).ownBlock ∧ some k_ ≠ (.slice Ao31 t954.length co31 : Value).ownBlock ∧ some k_ ≠ (.slice Ao39 t964.length co39 : Value).ownBlock) (Kd.R_keptB ((Kd.R_apart' (Kd.R_apart' HO978.out (Kd.R_typed HO_964001.out) (by decide)) (Kd.R_typed HO_964002.out) (by decide))) hkp (fun k_ hk_ hs_ => Or.elim hs_ (fun e_ => (hk_.1.1.1.2) e_) (fun e_ => Or.elim e_ (fun e_ => (hk_.1.2) e_) (fun e_ => (hk_.2) e_)))) (fun k_ hk_ => ⟨hk_.1.1.1.1.1.2, hk_.1.1.1.1.2, hk_.1.1.1.2⟩)); have n14_ := Aside0.mk (Kd.R_mono (ok' := fun k_ => some k_ ≠ (.slice Ao26 t946.length co26 : Value).ownBlock ∧ some k_ ≠ (.slice Ao27 t949.length co27 : Value).ownBlock ∧ some k_ ≠ (.slice Ao35 t957.length co35 : Value).ownBlock ∧ some k_ ≠ (.slice Ao36 t960.length co36 : Value).ownBlock ∧ some k_ ≠ (.slice Ao44 t967.length co44 : Value).ownBlock ∧ some k_ ≠ (.slice Ao45 t970.length co45 : Value).ownBlock ∧ some k_ ≠ (.slice Ao74 t982.length co74 : Value).ownBlock) (Kd.R_keptB ((Kd.R_apart' HO981.out (Kd.R_typed HO_964000.out) (by decide))) hkp (fun k_ hk_ hs_ => Or.elim hs_ (fun e_ => (hk_.2) e_) (fun e_ => Or.elim e_ (fun e_ => (hk_.1.1.1.1.2) e_) (fun e_ => (hk_.1.1.1.2) e_)))) (fun k_ hk_ => ⟨hk_.1.1.1.1.1.1.1.2, hk_.1.1.1.1.1.1.2, hk_.1.1.1.1.1.2, hk_.1.1.1.1.2, hk_.1.1.1.2, hk_.1.1.2, hk_.1.1.1.1.1.1.1.1⟩)); have n15_ := Aside0.mk (Kd.R_mono (ok' := fun k_ => some k_ ≠ (.slice Ao26 t946.length co26 : Value).ownBlock ∧ some k_ ≠ (.slice Ao27 t949.length co27 : Value).ownBlock ∧ some k_ ≠ (.slice Ao35 t957.length co35 : Value).ownBlock ∧ some k_ ≠ (.slice Ao36 t960.length co36 : Value).ownBlock ∧ some k_ ≠ (.slice Ao44 t967.length co44 : Value).ownBlock ∧ some k_ ≠ (.slice Ao45 t970.length co45 : Value).ownBlock ∧ some k_ ≠ (.slice Ao73 t979.length co73 : Value).ownBlock) (Kd.R_keptB ((Kd.R_apart' HO984.out (Kd.R_typed HO_964000.out) (by decide))) hkp (fun k_ hk_ hs_ => Or.elim hs_ (fun e_ => (hk_.2) e_) (fun e_ => Or.elim e_ (fun e_ => (hk_.1.1.1.1.2) e_) (fun e_ => (hk_.1.1.1.2) e_)))) (fun k_ hk_ => ⟨hk_.1.1.1.1.1.1.1.2, hk_.1.1.1.1.1.1.2, hk_.1.1.1.1.1.2, hk_.1.1.1.1.2, hk_.1.1.1.2, hk_.1.1.2, hk_.1.1.1.1.1.1.1.1⟩)); have n16_ := Aside0.mk (hb); clear HO_954000; clear HO_954001; clear HO_954002; clear HO_964000; clear HO_964001; clear HO_964002; clear HO_975000; clear HO_975001; clear HO_975002; clear BK932; clear BK953; clear BK963; clear BK974; clear HO978; clear HO981; clear HO984; clear HB; have HO_954000 := n0_; have HO_954001 := n1_; have HO_954002 := n2_; have HO_964000 := n3_; have HO_964001 := n4_; have HO_964002 := n5_; have HO_975000 := n6_; have HO_975001 := n7_; have HO_975002 := n8_; have BK932 := n9_; have BK953 := n10_; have BK963 := n11_; have BK974 := n12_; have HO978 := n13_; have HO981 := n14_; have HO984 := n15_; have HB := n16_; clear n0_ n1_ n2_ n3_ n4_ n5_ n6_ n7_ n8_ n9_ n10_ n11_ n12_ n13_ n14_ n15_ n16_; (try clear hb); (try clear hkp); (try clear hy0); (try clear hy1); (try clear hy2)))
      (try simp only [Act.put, List.setIfInBounds_toArray, List.set_cons_zero, List.set_cons_succ])
      go_cut [65] (fun v65 wc => ∃ (kq : Nat) (x65_68 : Bool), v65 = .bool x65_68 ∧ Aside0 (laws_FnExactForgetEdits.j1 kq a1 t952 x65_68 l0_0 l0_1 l0_2 t943 t946 t949 t964 t967 t970 = some r) ∧ Aside0 (kq ≤ kj11) ∧ Aside0 (Kd.R Kd.string 9 wc w.heap.size (fun k_ => some k_ ≠ ((.slice Ao31 t954.length co31) : Value).ownBlock ∧ some k_ ≠ ((.slice Ao39 t964.length co39) : Value).ownBlock) (.slice Ao23 t943.length co23) t943) ∧ Aside0 (Kd.R k25 25 wc w.heap.size (fun k_ => some k_ ≠ ((.slice Ao27 t949.length co27) : Value).ownBlock ∧ some k_ ≠ ((.slice Ao35 t957.length co35) : Value).ownBlock ∧ some k_ ≠ ((.slice Ao36 t960.length co36) : Value).ownBlock ∧ some k_ ≠ ((.slice Ao44 t967.length co44) : Value).ownBlock ∧ some k_ ≠ ((.slice Ao45 t970.length co45) : Value).ownBlock) (.slice Ao26 t946.length co26) t946) ∧ Aside0 (Kd.R k25 25 wc w.heap.size (fun k_ => some k_ ≠ ((.slice Ao26 t946.length co26) : Value).ownBlock ∧ some k_ ≠ ((.slice Ao35 t957.length co35) : Value).ownBlock ∧ some k_ ≠ ((.slice Ao36 t960.length co36) : Value).ownBlock ∧ some k_ ≠ ((.slice Ao44 t967.length co44) : Value).ownBlock ∧ some k_ ≠ ((.slice Ao45 t970.length co45) : Value).ownBlock) (.slice Ao27 t949.length co27) t949) ∧ Aside0 (Kd.R Kd.string 9 wc w.heap.size (fun k_ => some k_ ≠ ((.slice Ao23 t943.length co23) : Value).ownBlock ∧ some k_ ≠ ((.slice Ao39 t964.length co39) : Value).ownBlock) (.slice Ao31 t954.length co31) t987) ∧ Aside0 (Kd.R k25 25 wc w.heap.size (fun k_ => some k_ ≠ ((.slice Ao26 t946.length co26) : Value).ownBlock ∧ some k_ ≠ ((.slice Ao27 t949.length co27) : Value).ownBlock ∧ some k_ ≠ ((.slice Ao36 t960.length co36) : Value).ownBlock ∧ some k_ ≠ ((.slice Ao44 t967.length co44) : Value).ownBlock ∧ some k_ ≠ ((.slice Ao45 t970.length co45) : Value).ownBlock) (.slice Ao35 t957.length co35) t988) ∧ Aside0 (Kd.R k25 25 wc w.heap.size (fun k_ => some k_ ≠ ((.slice Ao26 t946.length co26) : Value).ownBlock ∧ some k_ ≠ ((.slice Ao27 t949.length co27) : Value).ownBlock ∧ some k_ ≠ ((.slice Ao35 t957.length co35) : Value).ownBlock ∧ some k_ ≠ ((.slice Ao44 t967.length co44) : Value).ownBlock ∧ some k_ ≠ ((.slice Ao45 t970.length co45) : Value).ownBlock) (.slice Ao36 t960.length co36) t989) ∧ Aside0 (Kd.R Kd.string 9 wc w.heap.size (fun k_ => some k_ ≠ ((.slice Ao23 t943.length co23) : Value).ownBlock ∧ some k_ ≠ ((.slice Ao31 t954.length co31) : Value).ownBlock) (.slice Ao39 t964.length co39) t964) ∧ Aside0 (Kd.R k25 25 wc w.heap.size (fun k_ => some k_ ≠ ((.slice Ao26 t946.length co26) : Value).ownBlock ∧ some k_ ≠ ((.slice Ao27 t949.length co27) : Value).ownBlock ∧ some k_ ≠ ((.slice Ao35 t957.length co35) : Value).ownBlock ∧ some k_ ≠ ((.slice Ao36 t960.length co36) : Value).ownBlock ∧ some k_ ≠ ((.slice Ao45 t970.length co45) : Value).ownBlock) (.slice Ao44 t967.length co44) t967) ∧ Aside0 (Kd.R k25 25 wc w.heap.size (fun k_ => some k_ ≠ ((.slice Ao26 t946.length co26) : Value).ownBlock ∧ some k_ ≠ ((.slice Ao27 t949.length co27) : Value).ownBlock ∧ some k_ ≠ ((.slice Ao35 t957.length co35) : Value).ownBlock ∧ some k_ ≠ ((.slice Ao36 t960.length co36) : Value).ownBlock ∧ some k_ ≠ ((.slice Ao44 t967.length co44) : Value).ownBlock) (.slice Ao45 t970.length co45) t970) ∧ Aside0 (wc.heap[gb932]? = some (.cells #[(.slice A0_0 l0_0.length c0_0), (.slice A0_1 l0_1.length c0_1), (.slice A0_2 l0_2.length c0_2)] 45 (0, 0))) ∧ Aside0 (wc.heap[gb953]? = some (.cells #[(.slice Ao23 t943.length co23), (.slice Ao26 t946.length co26), (.slice Ao27 t949.length co27)] 35 (0, 0))) ∧ Aside0 (wc.heap[gb963]? = some (.cells #[(.slice Ao31 t954.length co31), (.slice Ao35 t957.length co35), (.slice Ao36 t960.length co36)] 35 (0, 0))) ∧ Aside0 (wc.heap[gb974]? = some (.cells #[(.slice Ao39 t964.length co39), (.slice Ao44 t967.length co44), (.slice Ao45 t970.length co45)] 35 (0, 0))) ∧ Aside0 (Below w.heap.size w wc))
      case first =>
       have H := HC69.out
       clear HC69
       by_cases c81 : t986 < 0
       ·rw [if_pos c81] at H
        have c81b0 : decide (t986 < 0) = true := decide_eq_true c81
        clear c81
        (first | rw [c81b0] | (simp only [i64_w, i32_w]; rw [c81b0]) | skip)
        have H' := Aside0.mk H
        clear H
        go_wp2
        go_meet
        case rel => exact ⟨_, (true), (by first | rfl | (simp; done) | (simp [*]; done)), H', ⟨by have := HJ11.out; first | omega | exact Nat.le_refl _⟩, ⟨by (with_reducible repeat (first | apply rA_ | apply rN_ | apply rD_)); exact Kd.R_mono HO_954000.out (fun _ hk => ⟨hk.1, hk.2.1⟩)⟩, ⟨by (with_reducible repeat (first | apply rA_ | apply rN_ | apply rD_)); exact Kd.R_mono HO_954001.out (fun _ hk => ⟨hk.1, ⟨hk.2.1, ⟨hk.2.2.1, ⟨hk.2.2.2.1, hk.2.2.2.2.1⟩⟩⟩⟩)⟩, ⟨by (with_reducible repeat (first | apply rA_ | apply rN_ | apply rD_)); exact Kd.R_mono HO_954002.out (fun _ hk => ⟨hk.1, ⟨hk.2.1, ⟨hk.2.2.1, ⟨hk.2.2.2.1, hk.2.2.2.2.1⟩⟩⟩⟩)⟩, ⟨by (with_reducible repeat (first | apply rA_ | apply rN_ | apply rD_)); exact Kd.R_mono HO_964000.out (fun _ hk => ⟨hk.1.1, hk.1.2⟩)⟩, ⟨by (with_reducible repeat (first | apply rA_ | apply rN_ | apply rD_)); exact Kd.R_mono HO_964001.out (fun _ hk => ⟨hk.1.1.1, ⟨hk.1.1.2.1, ⟨hk.1.1.2.2.1, ⟨hk.1.1.2.2.2.1, hk.1.1.2.2.2.2⟩⟩⟩⟩)⟩, ⟨by (with_reducible repeat (first | apply rA_ | apply rN_ | apply rD_)); exact Kd.R_mono HO_964002.out (fun _ hk => ⟨hk.1.1.1, ⟨hk.1.1.2.1, ⟨hk.1.1.2.2.1, ⟨hk.1.1.2.2.2.1, hk.1.1.2.2.2.2⟩⟩⟩⟩)⟩, ⟨by (with_reducible repeat (first | apply rA_ | apply rN_ | apply rD_)); exact Kd.R_mono HO_975000.out (fun _ hk => ⟨hk.1, hk.2.1⟩)⟩, ⟨by (with_reducible repeat (first | apply rA_ | apply rN_ | apply rD_)); exact Kd.R_mono HO_975001.out (fun _ hk => ⟨hk.1, ⟨hk.2.1, ⟨hk.2.2.1, ⟨hk.2.2.2.1, hk.2.2.2.2.1⟩⟩⟩⟩)⟩, ⟨by (with_reducible repeat (first | apply rA_ | apply rN_ | apply rD_)); exact Kd.R_mono HO_975002.out (fun _ hk => ⟨hk.1, ⟨hk.2.1, ⟨hk.2.2.1, ⟨hk.2.2.2.1, hk.2.2.2.2.1⟩⟩⟩⟩)⟩, ⟨by (with_reducible repeat (first | apply lN_ | apply lD_ | apply lA_)); exact BK932.out⟩, ⟨by (with_reducible repeat (first | apply lN_ | apply lD_ | apply lA_)); exact BK953.out⟩, ⟨by (with_reducible repeat (first | apply lN_ | apply lD_ | apply lA_)); exact BK963.out⟩, ⟨by (with_reducible repeat (first | apply lN_ | apply lD_ | apply lA_)); exact BK974.out⟩, ⟨bb4_ HB GE932 GE953 GE963 GE974⟩⟩
       ·rw [if_neg c81] at H
        have c81b0 : decide (t986 < 0) = false := decide_eq_false c81
        clear c81
        (first | rw [c81b0] | (simp only [i64_w, i32_w]; rw [c81b0]) | skip)
        replace H := Option.bind_eq_some_iff.mp H
        obtain ⟨t990, A820, H⟩ := H
        try dsimp only at H
        have A82 := Aside0.mk A820
        clear A820
        by_cases c83 : t990 = true
        ·subst c83
         have H1 : (laws_FnExactForgetEdits.j1 kj11 a1 t952 (t973 != t952) l0_0 l0_1 l0_2 t943 t946 t949 t964 t967 t970) = some r := by rw [if_pos rfl] at H; exact H
         clear H
         have H := H1
         clear H1
         have H' := Aside0.mk H
         clear H
         have hnb84 := NB974_932.out
         have hnc84 := NB932_974.out
         have hnb85 := NB974_953.out
         have hnc85 := NB953_974.out
         have hnb86 := NB974_963.out
         have hnc86 := NB963_974.out
         have hcz87_0 : w80.cell? ⟨gb974, 0, none⟩ = some (.slice Ao39 t964.length co39) := (blk_cell BK974.out 0).trans rfl
         have hcz87_1 : w80.cell? ⟨gb974, 1, none⟩ = some (.slice Ao44 t967.length co44) := (blk_cell BK974.out 1).trans rfl
         have hcz87_2 : w80.cell? ⟨gb974, 2, none⟩ = some (.slice Ao45 t970.length co45) := (blk_cell BK974.out 2).trans rfl
         have hfz87_0 := blk_frozen BK974.out 0
         have hfz87_1 := blk_frozen BK974.out 1
         have hfz87_2 := blk_frozen BK974.out 2
         have hnb88 := NB953_932.out
         have hnc88 := NB932_953.out
         have hnb89 := NB953_963.out
         have hnc89 := NB963_953.out
         have hcz90_0 : w80.cell? ⟨gb953, 0, none⟩ = some (.slice Ao23 t943.length co23) := (blk_cell BK953.out 0).trans rfl
         have hcz90_1 : w80.cell? ⟨gb953, 1, none⟩ = some (.slice Ao26 t946.length co26) := (blk_cell BK953.out 1).trans rfl
         have hcz90_2 : w80.cell? ⟨gb953, 2, none⟩ = some (.slice Ao27 t949.length co27) := (blk_cell BK953.out 2).trans rfl
         have hfz90_0 := blk_frozen BK953.out 0
         have hfz90_1 := blk_frozen BK953.out 1
         have hfz90_2 := blk_frozen BK953.out 2
         go_wp2_with (first | (go_at_call 23; (with_reducible refine (laws_eqDesk.calls kj11 _ _ t964 _ _ t967 _ _ t970 _ _ t943 _ _ t946 _ _ t949 true _ ?side1 ?side2 ?side3 ?side4 ?side5 ?side6 ?side7 ?side8 ?side9 ?side10 ?side11 ?side12 A82.out).mono ?_); (case side1 => repeat (first | exact (Kd.R_reads' HO_975000.out).2.2 | (with_reducible first | apply cA_ | apply cN_ | apply cD_))); (case side2 => exact (Kd.R_reads' HO_975000.out).2.1); (case side3 => repeat (first | exact (Kd.R_reads' HO_975001.out).2.2 | (with_reducible first | apply cA_ | apply cN_ | apply cD_))); (case side4 => exact (Kd.R_reads' HO_975001.out).2.1); (case side5 => repeat (first | exact (Kd.R_reads' HO_975002.out).2.2 | (with_reducible first | apply cA_ | apply cN_ | apply cD_))); (case side6 => exact (Kd.R_reads' HO_975002.out).2.1); (case side7 => repeat (first | exact (Kd.R_reads' HO_954000.out).2.2 | (with_reducible first | apply cA_ | apply cN_ | apply cD_))); (case side8 => exact (Kd.R_reads' HO_954000.out).2.1); (case side9 => repeat (first | exact (Kd.R_reads' HO_954001.out).2.2 | (with_reducible first | apply cA_ | apply cN_ | apply cD_))); (case side10 => exact (Kd.R_reads' HO_954001.out).2.1); (case side11 => repeat (first | exact (Kd.R_reads' HO_954002.out).2.2 | (with_reducible first | apply cA_ | apply cN_ | apply cD_))); (case side12 => exact (Kd.R_reads' HO_954002.out).2.1); rintro e w91 ⟨rfl, hb⟩; have n0_ := Aside0.mk (Kd.R_below (ra_ HO_954000) hb); have n1_ := Aside0.mk (Kd.R_below (ra_ HO_954001) hb); have n2_ := Aside0.mk (Kd.R_below (ra_ HO_954002) hb); have n3_ := Aside0.mk (Kd.R_below (ra_ HO_964000) hb); have n4_ := Aside0.mk (Kd.R_below (ra_ HO_964001) hb); have n5_ := Aside0.mk (Kd.R_below (ra_ HO_964002) hb); have n6_ := Aside0.mk (Kd.R_below (ra_ HO_975000) hb); have n7_ := Aside0.mk (Kd.R_below (ra_ HO_975001) hb); have n8_ := Aside0.mk (Kd.R_below (ra_ HO_975002) hb); have n9_ := Aside0.mk (Kd.R_below (ra_ HO978) hb); have n10_ := Aside0.mk (Kd.R_below (ra_ HO981) hb); have n11_ := Aside0.mk (Kd.R_below (ra_ HO984) hb); have n12_ := Aside0.mk (lb_ BK932 hb); have n13_ := Aside0.mk (lb_ BK953 hb); have n14_ := Aside0.mk (lb_ BK963 hb); have n15_ := Aside0.mk (lb_ BK974 hb); have n16_ := Aside0.mk (below_step (bb4_ HB GE932 GE953 GE963 GE974) hb); clear HO_954000; clear HO_954001; clear HO_954002; clear HO_964000; clear HO_964001; clear HO_964002; clear HO_975000; clear HO_975001; clear HO_975002; clear HO978; clear HO981; clear HO984; clear BK932; clear BK953; clear BK963; clear BK974; clear HB; have HO_954000 := n0_; have HO_954001 := n1_; have HO_954002 := n2_; have HO_964000 := n3_; have HO_964001 := n4_; have HO_964002 := n5_; have HO_975000 := n6_; have HO_975001 := n7_; have HO_975002 := n8_; have HO978 := n9_; have HO981 := n10_; have HO984 := n11_; have BK932 := n12_; have BK953 := n13_; have BK963 := n14_; have BK974 := n15_; have HB := n16_; clear n0_ n1_ n2_ n3_ n4_ n5_ n6_ n7_ n8_ n9_ n10_ n11_ n12_ n13_ n14_ n15_ n16_; (try clear hb); (try clear hb2); (try clear hk); (try clear hi)))
         go_meet
         case rel => exact ⟨_, ((t973 != t952)), (by first | rfl | (simp; done) | (simp [*]; done)), H', ⟨by have := HJ11.out; first | omega | exact Nat.le_refl _⟩, ⟨by (with_reducible repeat (first | apply rA_ | apply rN_ | apply rD_)); exact Kd.R_mono HO_954000.out (fun _ hk => ⟨hk.1, hk.2.1⟩)⟩, ⟨by (with_reducible repeat (first | apply rA_ | apply rN_ | apply rD_)); exact Kd.R_mono HO_954001.out (fun _ hk => ⟨hk.1, ⟨hk.2.1, ⟨hk.2.2.1, ⟨hk.2.2.2.1, hk.2.2.2.2.1⟩⟩⟩⟩)⟩, ⟨by (with_reducible repeat (first | apply rA_ | apply rN_ | apply rD_)); exact Kd.R_mono HO_954002.out (fun _ hk => ⟨hk.1, ⟨hk.2.1, ⟨hk.2.2.1, ⟨hk.2.2.2.1, hk.2.2.2.2.1⟩⟩⟩⟩)⟩, ⟨by (with_reducible repeat (first | apply rA_ | apply rN_ | apply rD_)); exact Kd.R_mono HO_964000.out (fun _ hk => ⟨hk.1.1, hk.1.2⟩)⟩, ⟨by (with_reducible repeat (first | apply rA_ | apply rN_ | apply rD_)); exact Kd.R_mono HO_964001.out (fun _ hk => ⟨hk.1.1.1, ⟨hk.1.1.2.1, ⟨hk.1.1.2.2.1, ⟨hk.1.1.2.2.2.1, hk.1.1.2.2.2.2⟩⟩⟩⟩)⟩, ⟨by (with_reducible repeat (first | apply rA_ | apply rN_ | apply rD_)); exact Kd.R_mono HO_964002.out (fun _ hk => ⟨hk.1.1.1, ⟨hk.1.1.2.1, ⟨hk.1.1.2.2.1, ⟨hk.1.1.2.2.2.1, hk.1.1.2.2.2.2⟩⟩⟩⟩)⟩, ⟨by (with_reducible repeat (first | apply rA_ | apply rN_ | apply rD_)); exact Kd.R_mono HO_975000.out (fun _ hk => ⟨hk.1, hk.2.1⟩)⟩, ⟨by (with_reducible repeat (first | apply rA_ | apply rN_ | apply rD_)); exact Kd.R_mono HO_975001.out (fun _ hk => ⟨hk.1, ⟨hk.2.1, ⟨hk.2.2.1, ⟨hk.2.2.2.1, hk.2.2.2.2.1⟩⟩⟩⟩)⟩, ⟨by (with_reducible repeat (first | apply rA_ | apply rN_ | apply rD_)); exact Kd.R_mono HO_975002.out (fun _ hk => ⟨hk.1, ⟨hk.2.1, ⟨hk.2.2.1, ⟨hk.2.2.2.1, hk.2.2.2.2.1⟩⟩⟩⟩)⟩, ⟨by (with_reducible repeat (first | apply lN_ | apply lD_ | apply lA_)); exact BK932.out⟩, ⟨by (with_reducible repeat (first | apply lN_ | apply lD_ | apply lA_)); exact BK953.out⟩, ⟨by (with_reducible repeat (first | apply lN_ | apply lD_ | apply lA_)); exact BK963.out⟩, ⟨by (with_reducible repeat (first | apply lN_ | apply lD_ | apply lA_)); exact BK974.out⟩, ⟨bb4_ HB GE932 GE953 GE963 GE974⟩⟩
        ·replace c83 := Bool.eq_false_iff.mpr c83
         subst c83
         have H1 : (laws_FnExactForgetEdits.j1 kj11 a1 t952 true l0_0 l0_1 l0_2 t943 t946 t949 t964 t967 t970) = some r := by rw [if_neg (show ¬ (false = true) by decide)] at H; exact H
         clear H
         have H := H1
         clear H1
         have H' := Aside0.mk H
         clear H
         have hnb92 := NB974_932.out
         have hnc92 := NB932_974.out
         have hnb93 := NB974_953.out
         have hnc93 := NB953_974.out
         have hnb94 := NB974_963.out
         have hnc94 := NB963_974.out
         have hcz95_0 : w80.cell? ⟨gb974, 0, none⟩ = some (.slice Ao39 t964.length co39) := (blk_cell BK974.out 0).trans rfl
         have hcz95_1 : w80.cell? ⟨gb974, 1, none⟩ = some (.slice Ao44 t967.length co44) := (blk_cell BK974.out 1).trans rfl
         have hcz95_2 : w80.cell? ⟨gb974, 2, none⟩ = some (.slice Ao45 t970.length co45) := (blk_cell BK974.out 2).trans rfl
         have hfz95_0 := blk_frozen BK974.out 0
         have hfz95_1 := blk_frozen BK974.out 1
         have hfz95_2 := blk_frozen BK974.out 2
         have hnb96 := NB953_932.out
         have hnc96 := NB932_953.out
         have hnb97 := NB953_963.out
         have hnc97 := NB963_953.out
         have hcz98_0 : w80.cell? ⟨gb953, 0, none⟩ = some (.slice Ao23 t943.length co23) := (blk_cell BK953.out 0).trans rfl
         have hcz98_1 : w80.cell? ⟨gb953, 1, none⟩ = some (.slice Ao26 t946.length co26) := (blk_cell BK953.out 1).trans rfl
         have hcz98_2 : w80.cell? ⟨gb953, 2, none⟩ = some (.slice Ao27 t949.length co27) := (blk_cell BK953.out 2).trans rfl
         have hfz98_0 := blk_frozen BK953.out 0
         have hfz98_1 := blk_frozen BK953.out 1
         have hfz98_2 := blk_frozen BK953.out 2
         go_wp2_with (first | (go_at_call 23; (with_reducible refine (laws_eqDesk.calls kj11 _ _ t964 _ _ t967 _ _ t970 _ _ t943 _ _ t946 _ _ t949 false _ ?side1 ?side2 ?side3 ?side4 ?side5 ?side6 ?side7 ?side8 ?side9 ?side10 ?side11 ?side12 A82.out).mono ?_); (case side1 => repeat (first | exact (Kd.R_reads' HO_975000.out).2.2 | (with_reducible first | apply cA_ | apply cN_ | apply cD_))); (case side2 => exact (Kd.R_reads' HO_975000.out).2.1); (case side3 => repeat (first | exact (Kd.R_reads' HO_975001.out).2.2 | (with_reducible first | apply cA_ | apply cN_ | apply cD_))); (case side4 => exact (Kd.R_reads' HO_975001.out).2.1); (case side5 => repeat (first | exact (Kd.R_reads' HO_975002.out).2.2 | (with_reducible first | apply cA_ | apply cN_ | apply cD_))); (case side6 => exact (Kd.R_reads' HO_975002.out).2.1); (case side7 => repeat (first | exact (Kd.R_reads' HO_954000.out).2.2 | (with_reducible first | apply cA_ | apply cN_ | apply cD_))); (case side8 => exact (Kd.R_reads' HO_954000.out).2.1); (case side9 => repeat (first | exact (Kd.R_reads' HO_954001.out).2.2 | (with_reducible first | apply cA_ | apply cN_ | apply cD_))); (case side10 => exact (Kd.R_reads' HO_954001.out).2.1); (case side11 => repeat (first | exact (Kd.R_reads' HO_954002.out).2.2 | (with_reducible first | apply cA_ | apply cN_ | apply cD_))); (case side12 => exact (Kd.R_reads' HO_954002.out).2.1); rintro e w99 ⟨rfl, hb⟩; have n0_ := Aside0.mk (Kd.R_below (ra_ HO_954000) hb); have n1_ := Aside0.mk (Kd.R_below (ra_ HO_954001) hb); have n2_ := Aside0.mk (Kd.R_below (ra_ HO_954002) hb); have n3_ := Aside0.mk (Kd.R_below (ra_ HO_964000) hb); have n4_ := Aside0.mk (Kd.R_below (ra_ HO_964001) hb); have n5_ := Aside0.mk (Kd.R_below (ra_ HO_964002) hb); have n6_ := Aside0.mk (Kd.R_below (ra_ HO_975000) hb); have n7_ := Aside0.mk (Kd.R_below (ra_ HO_975001) hb); have n8_ := Aside0.mk (Kd.R_below (ra_ HO_975002) hb); have n9_ := Aside0.mk (Kd.R_below (ra_ HO978) hb); have n10_ := Aside0.mk (Kd.R_below (ra_ HO981) hb); have n11_ := Aside0.mk (Kd.R_below (ra_ HO984) hb); have n12_ := Aside0.mk (lb_ BK932 hb); have n13_ := Aside0.mk (lb_ BK953 hb); have n14_ := Aside0.mk (lb_ BK963 hb); have n15_ := Aside0.mk (lb_ BK974 hb); have n16_ := Aside0.mk (below_step (bb4_ HB GE932 GE953 GE963 GE974) hb); clear HO_954000; clear HO_954001; clear HO_954002; clear HO_964000; clear HO_964001; clear HO_964002; clear HO_975000; clear HO_975001; clear HO_975002; clear HO978; clear HO981; clear HO984; clear BK932; clear BK953; clear BK963; clear BK974; clear HB; have HO_954000 := n0_; have HO_954001 := n1_; have HO_954002 := n2_; have HO_964000 := n3_; have HO_964001 := n4_; have HO_964002 := n5_; have HO_975000 := n6_; have HO_975001 := n7_; have HO_975002 := n8_; have HO978 := n9_; have HO981 := n10_; have HO984 := n11_; have BK932 := n12_; have BK953 := n13_; have BK963 := n14_; have BK974 := n15_; have HB := n16_; clear n0_ n1_ n2_ n3_ n4_ n5_ n6_ n7_ n8_ n9_ n10_ n11_ n12_ n13_ n14_ n15_ n16_; (try clear hb); (try clear hb2); (try clear hk); (try clear hi)))
         go_meet
         case rel => exact ⟨_, (true), (by first | rfl | (simp; done) | (simp [*]; done)), H', ⟨by have := HJ11.out; first | omega | exact Nat.le_refl _⟩, ⟨by (with_reducible repeat (first | apply rA_ | apply rN_ | apply rD_)); exact Kd.R_mono HO_954000.out (fun _ hk => ⟨hk.1, hk.2.1⟩)⟩, ⟨by (with_reducible repeat (first | apply rA_ | apply rN_ | apply rD_)); exact Kd.R_mono HO_954001.out (fun _ hk => ⟨hk.1, ⟨hk.2.1, ⟨hk.2.2.1, ⟨hk.2.2.2.1, hk.2.2.2.2.1⟩⟩⟩⟩)⟩, ⟨by (with_reducible repeat (first | apply rA_ | apply rN_ | apply rD_)); exact Kd.R_mono HO_954002.out (fun _ hk => ⟨hk.1, ⟨hk.2.1, ⟨hk.2.2.1, ⟨hk.2.2.2.1, hk.2.2.2.2.1⟩⟩⟩⟩)⟩, ⟨by (with_reducible repeat (first | apply rA_ | apply rN_ | apply rD_)); exact Kd.R_mono HO_964000.out (fun _ hk => ⟨hk.1.1, hk.1.2⟩)⟩, ⟨by (with_reducible repeat (first | apply rA_ | apply rN_ | apply rD_)); exact Kd.R_mono HO_964001.out (fun _ hk => ⟨hk.1.1.1, ⟨hk.1.1.2.1, ⟨hk.1.1.2.2.1, ⟨hk.1.1.2.2.2.1, hk.1.1.2.2.2.2⟩⟩⟩⟩)⟩, ⟨by (with_reducible repeat (first | apply rA_ | apply rN_ | apply rD_)); exact Kd.R_mono HO_964002.out (fun _ hk => ⟨hk.1.1.1, ⟨hk.1.1.2.1, ⟨hk.1.1.2.2.1, ⟨hk.1.1.2.2.2.1, hk.1.1.2.2.2.2⟩⟩⟩⟩)⟩, ⟨by (with_reducible repeat (first | apply rA_ | apply rN_ | apply rD_)); exact Kd.R_mono HO_975000.out (fun _ hk => ⟨hk.1, hk.2.1⟩)⟩, ⟨by (with_reducible repeat (first | apply rA_ | apply rN_ | apply rD_)); exact Kd.R_mono HO_975001.out (fun _ hk => ⟨hk.1, ⟨hk.2.1, ⟨hk.2.2.1, ⟨hk.2.2.2.1, hk.2.2.2.2.1⟩⟩⟩⟩)⟩, ⟨by (with_reducible repeat (first | apply rA_ | apply rN_ | apply rD_)); exact Kd.R_mono HO_975002.out (fun _ hk => ⟨hk.1, ⟨hk.2.1, ⟨hk.2.2.1, ⟨hk.2.2.2.1, hk.2.2.2.2.1⟩⟩⟩⟩)⟩, ⟨by (with_reducible repeat (first | apply lN_ | apply lD_ | apply lA_)); exact BK932.out⟩, ⟨by (with_reducible repeat (first | apply lN_ | apply lD_ | apply lA_)); exact BK953.out⟩, ⟨by (with_reducible repeat (first | apply lN_ | apply lD_ | apply lA_)); exact BK963.out⟩, ⟨by (with_reducible repeat (first | apply lN_ | apply lD_ | apply lA_)); exact BK974.out⟩, ⟨bb4_ HB GE932 GE953 GE963 GE974⟩⟩
      case rest =>
       clear HC69
       try clear c1
       try clear c2
       try clear p2
       try clear c3
       try clear c4
       try clear c4b0
       try clear c5
       try clear c6
       try clear c7
       try clear c8
       try clear c9
       try clear c10
       try clear c23
       try clear c24
       try clear c26
       try clear c28
       try clear c30
       try clear c32
       try clear c33
       try clear c40
       try clear c41
       try clear c42
       try clear c47
       try clear c48
       try clear c49
       try clear c50
       try clear c52
       try clear c53
       try clear c56
       try clear c57
       try clear c58
       try clear c60
       try clear c61
       try clear c64
       try clear c67
       try clear c76
       try clear c77
       try clear c78
       try clear c81
       try clear c81b0
       try clear c83
       try clear c84
       try clear c85
       try clear c86
       try clear c88
       try clear c89
       try clear c92
       try clear c93
       try clear c94
       try clear c96
       try clear c97
       try clear hcz14_0
       try clear hcz14_1
       try clear hcz14_2
       try clear hcz16_0
       try clear hcz16_1
       try clear hcz16_2
       try clear hcz25_0
       try clear hcz25_1
       try clear hcz25_2
       try clear hcz28_0
       try clear hcz28_1
       try clear hcz28_2
       try clear hcz34_0
       try clear hcz34_1
       try clear hcz34_2
       try clear hcz43_0
       try clear hcz43_1
       try clear hcz43_2
       try clear hcz51_0
       try clear hcz51_1
       try clear hcz51_2
       try clear hcz54_0
       try clear hcz54_1
       try clear hcz54_2
       try clear hcz59_0
       try clear hcz59_1
       try clear hcz59_2
       try clear hcz62_0
       try clear hcz62_1
       try clear hcz62_2
       try clear hcz6_0
       try clear hcz6_1
       try clear hcz6_2
       try clear hcz79_0
       try clear hcz79_1
       try clear hcz79_2
       try clear hcz87_0
       try clear hcz87_1
       try clear hcz87_2
       try clear hcz90_0
       try clear hcz90_1
       try clear hcz90_2
       try clear hcz95_0
       try clear hcz95_1
       try clear hcz95_2
       try clear hcz98_0
       try clear hcz98_1
       try clear hcz98_2
       try clear hfz14_0
       try clear hfz14_1
       try clear hfz14_2
       try clear hfz16_0
       try clear hfz16_1
       try clear hfz16_2
       try clear hfz25_0
       try clear hfz25_1
       try clear hfz25_2
       try clear hfz28_0
       try clear hfz28_1
       try clear hfz28_2
       try clear hfz34_0
       try clear hfz34_1
       try clear hfz34_2
       try clear hfz43_0
       try clear hfz43_1
       try clear hfz43_2
       try clear hfz51_0
       try clear hfz51_1
       try clear hfz51_2
       try clear hfz54_0
       try clear hfz54_1
       try clear hfz54_2
       try clear hfz59_0
       try clear hfz59_1
       try clear hfz59_2
       try clear hfz62_0
       try clear hfz62_1
       try clear hfz62_2
       try clear hfz6_0
       try clear hfz6_1
       try clear hfz6_2
       try clear hfz79_0
       try clear hfz79_1
       try clear hfz79_2
       try clear hfz87_0
       try clear hfz87_1
       try clear hfz87_2
       try clear hfz90_0
       try clear hfz90_1
       try clear hfz90_2
       try clear hfz95_0
       try clear hfz95_1
       try clear hfz95_2
       try clear hfz98_0
       try clear hfz98_1
       try clear hfz98_2
       try clear p2
       obtain ⟨kq, x65_68, rfl, HA, HJ68, HO_954000, HO_954001, HO_954002, HO_964000, HO_964001, HO_964002, HO_975000, HO_975001, HO_975002, BK932, BK953, BK963, BK974, HB⟩ := hcut
       have hl964000_68 := (Kd.R_reads' HO_964000.out).1
       rw [hl964000_68] at HO_964000
       (try simp only [hl964000_68])
       (try simp only [hl964000_68] at BK932)
       (try simp only [hl964000_68] at BK953)
       (try simp only [hl964000_68] at BK963)
       (try simp only [hl964000_68] at BK974)
       (try simp only [hl964000_68] at HO_954000)
       (try simp only [hl964000_68] at HO_954001)
       (try simp only [hl964000_68] at HO_954002)
       (try simp only [hl964000_68] at HO_964001)
       (try simp only [hl964000_68] at HO_964002)
       (try simp only [hl964000_68] at HO_975000)
       (try simp only [hl964000_68] at HO_975001)
       (try simp only [hl964000_68] at HO_975002)
       have hl964001_68 := (Kd.R_reads' HO_964001.out).1
       rw [hl964001_68] at HO_964001
       (try simp only [hl964001_68])
       (try simp only [hl964001_68] at BK932)
       (try simp only [hl964001_68] at BK953)
       (try simp only [hl964001_68] at BK963)
       (try simp only [hl964001_68] at BK974)
       (try simp only [hl964001_68] at HO_954000)
       (try simp only [hl964001_68] at HO_954001)
       (try simp only [hl964001_68] at HO_954002)
       (try simp only [hl964001_68] at HO_964000)
       (try simp only [hl964001_68] at HO_964002)
       (try simp only [hl964001_68] at HO_975000)
       (try simp only [hl964001_68] at HO_975001)
       (try simp only [hl964001_68] at HO_975002)
       have hl964002_68 := (Kd.R_reads' HO_964002.out).1
       rw [hl964002_68] at HO_964002
       (try simp only [hl964002_68])
       (try simp only [hl964002_68] at BK932)
       (try simp only [hl964002_68] at BK953)
       (try simp only [hl964002_68] at BK963)
       (try simp only [hl964002_68] at BK974)
       (try simp only [hl964002_68] at HO_954000)
       (try simp only [hl964002_68] at HO_954001)
       (try simp only [hl964002_68] at HO_954002)
       (try simp only [hl964002_68] at HO_964000)
       (try simp only [hl964002_68] at HO_964001)
       (try simp only [hl964002_68] at HO_975000)
       (try simp only [hl964002_68] at HO_975001)
       (try simp only [hl964002_68] at HO_975002)
       cases kq with
       | zero => exact absurd HA.out (by simp [laws_FnExactForgetEdits.j1])
       | succ kj68 =>
        have H := HA.out
        clear HA
        simp only [laws_FnExactForgetEdits.j1] at H
        by_cases c100 : x65_68 = true
        ·subst c100
         have H1 : (none) = some r := by rw [if_pos rfl] at H; exact H
         clear H
         have H := H1
         clear H1
         exact absurd H (by simp)
        ·replace c100 := Bool.eq_false_iff.mpr c100
         subst c100
         have H1 : ((laws_markDesk.f kj68 t964 t967 t970 1).bind fun bt991 => ((laws_heldDesk.f kj68 bt991.2.1 bt991.2.2.1 bt991.2.2.2 1).bind fun t995 => (if t995 < 0 then (none) else (if t995 = bt991.1 then ((laws_toDesk.f kj68 l0_0 l0_1 l0_2).bind fun bt996 => ((impl_ForgetEdits.f kj68 bt996.1 bt996.2.1 bt996.2.2 a1).bind fun bt1005 => ((laws_eqDesk.f kj68 bt1005.1 bt1005.2.1 bt1005.2.2.1 t943 t946 t949).bind fun t1016 => (if t1016 = true then (laws_FnExactForgetEdits.j2 kj68 bt991.1 (bt1005.2.2.2 != t952) bt991.2.1 bt991.2.2.1 bt991.2.2.2) else (laws_FnExactForgetEdits.j2 kj68 bt991.1 true bt991.2.1 bt991.2.2.1 bt991.2.2.2))))) else (none))))) = some r := by rw [if_neg (show ¬ (false = true) by decide)] at H; exact H
         clear H
         have H := H1
         clear H1
         replace H := Option.bind_eq_some_iff.mp H
         obtain ⟨⟨t991, t992, t993, t994⟩, A1010, H⟩ := H
         try dsimp only at H
         have A101 := Aside0.mk A1010
         clear A1010
         replace H := Option.bind_eq_some_iff.mp H
         obtain ⟨t995, A1020, H⟩ := H
         try dsimp only at H
         have A102 := Aside0.mk A1020
         clear A1020
         by_cases c103 : t995 < 0
         ·rw [if_pos c103] at H
          exact absurd H (by simp)
         ·rw [if_neg c103] at H
          have c103b0 : decide (t995 < 0) = false := decide_eq_false c103
          clear c103
          by_cases c104 : t995 = t991
          ·rw [if_pos c104] at H
           have c104b0 : (t995 == t991) = true := beq_iff_eq.mpr c104
           have c104b1 : (t995 != t991) = false := bne_eq_false_iff_eq.mpr c104
           clear c104
           replace H := Option.bind_eq_some_iff.mp H
           obtain ⟨⟨t996, t999, t1002⟩, A1050, H⟩ := H
           try dsimp only at H
           have A105 := Aside0.mk A1050
           clear A1050
           replace H := Option.bind_eq_some_iff.mp H
           obtain ⟨⟨t1005, t1008, t1011, t1014⟩, A1060, H⟩ := H
           try dsimp only at H
           have A106 := Aside0.mk A1060
           clear A1060
           have HC107 := Aside0.mk H
           clear H
           have hnb108 := NB974_932.out
           have hnc108 := NB932_974.out
           have hnb109 := NB974_953.out
           have hnc109 := NB953_974.out
           have hnb110 := NB974_963.out
           have hnc110 := NB963_974.out
           have hcz111_0 : wc.cell? ⟨gb974, 0, none⟩ = some (.slice Ao39 t964.length co39) := (blk_cell BK974.out 0).trans rfl
           have hcz111_1 : wc.cell? ⟨gb974, 1, none⟩ = some (.slice Ao44 t967.length co44) := (blk_cell BK974.out 1).trans rfl
           have hcz111_2 : wc.cell? ⟨gb974, 2, none⟩ = some (.slice Ao45 t970.length co45) := (blk_cell BK974.out 2).trans rfl
           have hfz111_0 := blk_frozen BK974.out 0
           have hfz111_1 := blk_frozen BK974.out 1
           have hfz111_2 := blk_frozen BK974.out 2
           go_upto_region 25 with (first | ((with_reducible refine gate_callee (f := 26) rfl ?_); refine goesL_ (some 68) rfl rfl Try.func26 (by kernel_rfl) rfl #[.agg #[.slice Ao39 t964.length co39, .slice Ao44 t967.length co44, .slice Ao45 t970.length co45], .int .i64 1] rfl args_ ?_; (with_reducible refine (laws_markDesk.calls kj68 (fun k_ => some k_ = (.slice Ao39 t964.length co39 : Value).ownBlock) (.slice Ao39 t964.length co39) t964 (fun k_ => some k_ = (.slice Ao44 t967.length co44 : Value).ownBlock) (.slice Ao44 t967.length co44) t967 (fun k_ => some k_ = (.slice Ao45 t970.length co45 : Value).ownBlock) (.slice Ao45 t970.length co45) t970 1 t991 t992 t993 t994 w _ ?side1 ?side2 ?side3 ?side4 ?side5 ?side6 A101.out).mono ?_); (case side1 => repeat (first | (with_reducible first | exact HB.out | apply bA_ | apply bN_ | apply bD_ | refine bS_ ?_ GE932.out | refine bS_ ?_ GE953.out | refine bS_ ?_ GE963.out | refine bS_ ?_ GE974.out) | exact HB.out)); (case side2 => exact Kd.R_tight rfl HO_975000.out); (case side3 => exact Kd.R_tight rfl HO_975001.out); (case side4 => exact fun k_ e_ => (HO_975001.out.1 k_ e_.symm).2.2.2.2); (case side5 => exact Kd.R_tight rfl HO_975002.out); (case side6 => exact fun k_ e_ => (HO_975002.out.1 k_ e_.symm).2.2.2.2); rintro e w112 ⟨rfl, hy0, hy1, hy2, hb, hkp⟩; refine ⟨_, rfl, ?_⟩; have n0_ := Aside0.mk (Kd.R_mono (ok' := fun k_ => some k_ ≠ (.slice Ao31 t987.length co31 : Value).ownBlock ∧ some k_ ≠ (.slice Ao39 t964.length co39 : Value).ownBlock) (Kd.R_keptB ((Kd.R_apart' (Kd.R_apart' HO_954000.out (Kd.R_typed HO_975001.out) (by decide)) (Kd.R_typed HO_975002.out) (by decide))) hkp (fun k_ hk_ hs_ => Or.elim hs_ (fun e_ => (hk_.1.1.2) e_) (fun e_ => Or.elim e_ (fun e_ => (hk_.1.2) e_) (fun e_ => (hk_.2) e_)))) (fun k_ hk_ => ⟨hk_.1.1.1.1, hk_.1.1.1.2⟩)); have n1_ := Aside0.mk (Kd.R_mono (ok' := fun k_ => some k_ ≠ (.slice Ao27 t949.length co27 : Value).ownBlock ∧ some k_ ≠ (.slice Ao35 t988.length co35 : Value).ownBlock ∧ some k_ ≠ (.slice Ao36 t989.length co36 : Value).ownBlock ∧ some k_ ≠ (.slice Ao44 t967.length co44 : Value).ownBlock ∧ some k_ ≠ (.slice Ao45 t970.length co45 : Value).ownBlock) (Kd.R_keptB ((Kd.R_apart' HO_954001.out (Kd.R_typed HO_975000.out) (by decide))) hkp (fun k_ hk_ hs_ => Or.elim hs_ (fun e_ => (hk_.2) e_) (fun e_ => Or.elim e_ (fun e_ => (hk_.1.2.2.2.1) e_) (fun e_ => (hk_.1.2.2.2.2) e_)))) (fun k_ hk_ => ⟨hk_.1.1.1, hk_.1.1.2.1, hk_.1.1.2.2.1, hk_.1.1.2.2.2.1, hk_.1.1.2.2.2.2⟩)); have n2_ := Aside0.mk (Kd.R_mono (ok' := fun k_ => some k_ ≠ (.slice Ao26 t946.length co26 : Value).ownBlock ∧ some k_ ≠ (.slice Ao35 t988.length co35 : Value).ownBlock ∧ some k_ ≠ (.slice Ao36 t989.length co36 : Value).ownBlock ∧ some k_ ≠ (.slice Ao44 t967.length co44 : Value).ownBlock ∧ some k_ ≠ (.slice Ao45 t970.length co45 : Value).ownBlock) (Kd.R_keptB ((Kd.R_apart' HO_954002.out (Kd.R_typed HO_975000.out) (by decide))) hkp (fun k_ hk_ hs_ => Or.elim hs_ (fun e_ => (hk_.2) e_) (fun e_ => Or.elim e_ (fun e_ => (hk_.1.2.2.2.1) e_) (fun e_ => (hk_.1.2.2.2.2) e_)))) (fun k_ hk_ => ⟨hk_.1.1.1, hk_.1.1.2.1, hk_.1.1.2.2.1, hk_.1.1.2.2.2.1, hk_.1.1.2.2.2.2⟩)); have n3_ := Aside0.mk (Kd.R_mono (ok' := fun k_ => some k_ ≠ (.slice Ao23 t943.length co23 : Value).ownBlock ∧ some k_ ≠ (.slice Ao39 t964.length co39 : Value).ownBlock) (Kd.R_keptB ((Kd.R_apart' (Kd.R_apart' HO_964000.out (Kd.R_typed HO_975001.out) (by decide)) (Kd.R_typed HO_975002.out) (by decide))) hkp (fun k_ hk_ hs_ => Or.elim hs_ (fun e_ => (hk_.1.1.2) e_) (fun e_ => Or.elim e_ (fun e_ => (hk_.1.2) e_) (fun e_ => (hk_.2) e_)))) (fun k_ hk_ => ⟨hk_.1.1.1.1, hk_.1.1.1.2⟩)); have n4_ := Aside0.mk (Kd.R_mono (ok' := fun k_ => some k_ ≠ (.slice Ao26 t946.length co26 : Value).ownBlock ∧ some k_ ≠ (.slice Ao27 t949.length co27 : Value).ownBlock ∧ some k_ ≠ (.slice Ao36 t989.length co36 : Value).ownBlock ∧ some k_ ≠ (.slice Ao44 t967.length co44 : Value).ownBlock ∧ some k_ ≠ (.slice Ao45 t970.length co45 : Value).ownBlock) (Kd.R_keptB ((Kd.R_apart' HO_964001.out (Kd.R_typed HO_975000.out) (by decide))) hkp (fun k_ hk_ hs_ => Or.elim hs_ (fun e_ => (hk_.2) e_) (fun e_ => Or.elim e_ (fun e_ => (hk_.1.2.2.2.1) e_) (fun e_ => (hk_.1.2.2.2.2) e_)))) (fun k_ hk_ => ⟨hk_.1.1.1, hk_.1.1.2.1, hk_.1.1.2.2.1, hk_.1.1.2.2.2.1, hk_.1.1.2.2.2.2⟩)); have n5_ := Aside0.mk (Kd.R_mono (ok' := fun k_ => some k_ ≠ (.slice Ao26 t946.length co26 : Value).ownBlock ∧ some k_ ≠ (.slice Ao27 t949.length co27 : Value).ownBlock ∧ some k_ ≠ (.slice Ao35 t988.length co35 : Value).ownBlock ∧ some k_ ≠ (.slice Ao44 t967.length co44 : Value).ownBlock ∧ some k_ ≠ (.slice Ao45 t970.length co45 : Value).ownBlock) (Kd.R_keptB ((Kd.R_apart' HO_964002.out (Kd.R_typed HO_975000.out) (by decide))) hkp (fun k_ hk_ hs_ => Or.elim hs_ (fun e_ => (hk_.2) e_) (fun e_ => Or.elim e_ (fun e_ => (hk_.1.2.2.2.1) e_) (fun e_ => (hk_.1.2.2.2.2) e_)))) (fun k_ hk_ => ⟨hk_.1.1.1, hk_.1.1.2.1, hk_.1.1.2.2.1, hk_.1.1.2.2.2.1, hk_.1.1.2.2.2.2⟩)); have n6_ := Aside0.mk (Kd.R_reok rfl hy0 (fun k_ e_ => HO_975000.out.1 k_ e_)); have n7_ := Aside0.mk (Kd.R_reok rfl hy1 (fun k_ e_ => HO_975001.out.1 k_ e_)); have n8_ := Aside0.mk (Kd.R_reok rfl hy2 (fun k_ e_ => HO_975002.out.1 k_ e_)); have n9_ := Aside0.mk (blk_kept (la_ BK932) hkp (fun hs_ => Or.elim hs_ (fun e_ => (fun e_ => (Kd.R_ne HO_975000.out BK932.out (by decide)) e_) e_) (fun e_ => Or.elim e_ (fun e_ => (fun e_ => (Kd.R_ne HO_975001.out BK932.out (by decide)) e_) e_) (fun e_ => (fun e_ => (Kd.R_ne HO_975002.out BK932.out (by decide)) e_) e_)))); have n10_ := Aside0.mk (blk_kept (la_ BK953) hkp (fun hs_ => Or.elim hs_ (fun e_ => (fun e_ => (Kd.R_ne HO_975000.out BK953.out (by decide)) e_) e_) (fun e_ => Or.elim e_ (fun e_ => (fun e_ => (Kd.R_ne HO_975001.out BK953.out (by decide)) e_) e_) (fun e_ => (fun e_ => (Kd.R_ne HO_975002.out BK953.out (by decide)) e_) e_)))); have n11_ := Aside0.mk (blk_kept (la_ BK963) hkp (fun hs_ => Or.elim hs_ (fun e_ => (fun e_ => (Kd.R_ne HO_975000.out BK963.out (by decide)) e_) e_) (fun e_ => Or.elim e_ (fun e_ => (fun e_ => (Kd.R_ne HO_975001.out BK963.out (by decide)) e_) e_) (fun e_ => (fun e_ => (Kd.R_ne HO_975002.out BK963.out (by decide)) e_) e_)))); have n12_ := Aside0.mk (blk_kept (la_ BK974) hkp (fun hs_ => Or.elim hs_ (fun e_ => (fun e_ => (Kd.R_ne HO_975000.out BK974.out (by decide)) e_) e_) (fun e_ => Or.elim e_ (fun e_ => (fun e_ => (Kd.R_ne HO_975001.out BK974.out (by decide)) e_) e_) (fun e_ => (fun e_ => (Kd.R_ne HO_975002.out BK974.out (by decide)) e_) e_)))); have n13_ := Aside0.mk (hb); clear HO_954000; clear HO_954001; clear HO_954002; clear HO_964000; clear HO_964001; clear HO_964002; clear HO_975000; clear HO_975001; clear HO_975002; clear BK932; clear BK953; clear BK963; clear BK974; clear HB; have HO_954000 := n0_; have HO_954001 := n1_; have HO_954002 := n2_; have HO_964000 := n3_; have HO_964001 := n4_; have HO_964002 := n5_; have HO_975000 := n6_; have HO_975001 := n7_; have HO_975002 := n8_; have BK932 := n9_; have BK953 := n10_; have BK963 := n11_; have BK974 := n12_; have HB := n13_; clear n0_ n1_ n2_ n3_ n4_ n5_ n6_ n7_ n8_ n9_ n10_ n11_ n12_ n13_; (try clear hb); (try clear hkp); (try clear hy0); (try clear hy1); (try clear hy2); have hcz113_0 : w112.cell? ⟨gb974, 0, none⟩ = some (.slice Ao39 t964.length co39) := (blk_cell BK974.out 0).trans rfl; have hcz113_1 : w112.cell? ⟨gb974, 1, none⟩ = some (.slice Ao44 t967.length co44) := (blk_cell BK974.out 1).trans rfl; have hcz113_2 : w112.cell? ⟨gb974, 2, none⟩ = some (.slice Ao45 t970.length co45) := (blk_cell BK974.out 2).trans rfl; have hfz113_0 := blk_frozen BK974.out 0; have hfz113_1 := blk_frozen BK974.out 1; have hfz113_2 := blk_frozen BK974.out 2) | ((with_reducible refine gate_callee (f := 27) rfl ?_); refine goesL_ (some 71) rfl rfl Try.func27 (by kernel_rfl) rfl #[.agg #[.slice Ao39 t992.length co39, .slice Ao44 t993.length co44, .slice Ao45 t994.length co45], .int .i64 1] rfl (by (try simp only [List.map_toArray, List.map_cons, List.map_nil]); first | done | (rw [show t992.length = t964.length from (Kd.R_reads' HO_975000.out).1.symm, show t993.length = t967.length from (Kd.R_reads' HO_975001.out).1.symm, show t994.length = t970.length from (Kd.R_reads' HO_975002.out).1.symm] <;> rfl) | rfl | (simp only [List.length_drop, List.length_take]; rfl)) ?_; (with_reducible refine (laws_heldDesk.calls kj68 _ _ t992 _ _ t993 _ _ t994 1 t995 _ ?side1 ?side2 ?side3 ?side4 ?side5 ?side6 A102.out).mono ?_); (case side1 => repeat (first | exact (Kd.R_reads' HO_975000.out).2.2 | (with_reducible first | apply cA_ | apply cN_ | apply cD_))); (case side2 => rw [show t992.length = t964.length from (Kd.R_reads' HO_975000.out).1.symm]; exact (Kd.R_reads' HO_975000.out).2.1); (case side3 => repeat (first | exact (Kd.R_reads' HO_975001.out).2.2 | (with_reducible first | apply cA_ | apply cN_ | apply cD_))); (case side4 => rw [show t993.length = t967.length from (Kd.R_reads' HO_975001.out).1.symm]; exact (Kd.R_reads' HO_975001.out).2.1); (case side5 => repeat (first | exact (Kd.R_reads' HO_975002.out).2.2 | (with_reducible first | apply cA_ | apply cN_ | apply cD_))); (case side6 => rw [show t994.length = t970.length from (Kd.R_reads' HO_975002.out).1.symm]; exact (Kd.R_reads' HO_975002.out).2.1); rintro e w114 ⟨rfl, hb⟩; refine ⟨_, rfl, ?_⟩; have n0_ := Aside0.mk (Kd.R_below (ra_ HO_954000) hb); have n1_ := Aside0.mk (Kd.R_below (ra_ HO_954001) hb); have n2_ := Aside0.mk (Kd.R_below (ra_ HO_954002) hb); have n3_ := Aside0.mk (Kd.R_below (ra_ HO_964000) hb); have n4_ := Aside0.mk (Kd.R_below (ra_ HO_964001) hb); have n5_ := Aside0.mk (Kd.R_below (ra_ HO_964002) hb); have n6_ := Aside0.mk (Kd.R_below (ra_ HO_975000) hb); have n7_ := Aside0.mk (Kd.R_below (ra_ HO_975001) hb); have n8_ := Aside0.mk (Kd.R_below (ra_ HO_975002) hb); have n9_ := Aside0.mk (lb_ BK932 hb); have n10_ := Aside0.mk (lb_ BK953 hb); have n11_ := Aside0.mk (lb_ BK963 hb); have n12_ := Aside0.mk (lb_ BK974 hb); have n13_ := Aside0.mk (below_step (bb4_ HB GE932 GE953 GE963 GE974) hb); clear HO_954000; clear HO_954001; clear HO_954002; clear HO_964000; clear HO_964001; clear HO_964002; clear HO_975000; clear HO_975001; clear HO_975002; clear BK932; clear BK953; clear BK963; clear BK974; clear HB; have HO_954000 := n0_; have HO_954001 := n1_; have HO_954002 := n2_; have HO_964000 := n3_; have HO_964001 := n4_; have HO_964002 := n5_; have HO_975000 := n6_; have HO_975001 := n7_; have HO_975002 := n8_; have BK932 := n9_; have BK953 := n10_; have BK963 := n11_; have BK974 := n12_; have HB := n13_; clear n0_ n1_ n2_ n3_ n4_ n5_ n6_ n7_ n8_ n9_ n10_ n11_ n12_ n13_; (try clear hb); (try clear hb2); (try clear hk); (try clear hi); have hnb115 := NB932_953.out; have hnc115 := NB953_932.out; have hnb116 := NB932_963.out; have hnc116 := NB963_932.out; have hcz117_0 : w114.cell? ⟨gb932, 0, none⟩ = some (.slice A0_0 l0_0.length c0_0) := (blk_cell BK932.out 0).trans rfl; have hcz117_1 : w114.cell? ⟨gb932, 1, none⟩ = some (.slice A0_1 l0_1.length c0_1) := (blk_cell BK932.out 1).trans rfl; have hcz117_2 : w114.cell? ⟨gb932, 2, none⟩ = some (.slice A0_2 l0_2.length c0_2) := (blk_cell BK932.out 2).trans rfl; have hfz117_0 := blk_frozen BK932.out 0; have hfz117_1 := blk_frozen BK932.out 1; have hfz117_2 := blk_frozen BK932.out 2) | ((with_reducible refine gate_callee (f := 30) rfl ?_); refine goesL_ (some 79) rfl rfl Try.func30 (by kernel_rfl) rfl #[.agg #[.slice A0_0 l0_0.length c0_0, .slice A0_1 l0_1.length c0_1, .slice A0_2 l0_2.length c0_2]] rfl args_ ?_; (with_reducible refine (laws_toDesk.calls kj68 _ _ l0_0 _ _ l0_1 _ _ l0_2 t996 t999 t1002 _ ?side1 ?side2 ?side3 ?side4 ?side5 ?side6 A105.out).mono ?_); (case side1 => repeat (first | exact (Kd.C_below HR0_0.out HB.out) | (with_reducible first | apply cA_ | apply cN_ | apply cD_))); (case side2 => exact HC0_0.out); (case side3 => repeat (first | exact (Kd.C_below HR0_1.out HB.out) | (with_reducible first | apply cA_ | apply cN_ | apply cD_))); (case side4 => exact HC0_1.out); (case side5 => repeat (first | exact (Kd.C_below HR0_2.out HB.out) | (with_reducible first | apply cA_ | apply cN_ | apply cD_))); (case side6 => exact HC0_2.out); rintro e w118 ⟨v997, v1000, v1003, rfl, ho0, ho1, ho2, hb⟩; refine ⟨_, rfl, ?_⟩; have n0_ := Aside0.mk (Kd.R_elder' (ra_ HO_954000) (Kd.R_base ho0) hb); have n1_ := Aside0.mk (Kd.R_mono (Kd.R_told (Kd.R_told (Kd.R_old (ra_ HO_954001) hb) (Kd.R_base ho1)) (Kd.R_base ho2)) (fun _ h_ => h_.1)); have n2_ := Aside0.mk (Kd.R_mono (Kd.R_told (Kd.R_told (Kd.R_old (ra_ HO_954002) hb) (Kd.R_base ho1)) (Kd.R_base ho2)) (fun _ h_ => h_.1)); have n3_ := Aside0.mk (Kd.R_elder' (ra_ HO_964000) (Kd.R_base ho0) hb); have n4_ := Aside0.mk (Kd.R_mono (Kd.R_told (Kd.R_told (Kd.R_old (ra_ HO_964001) hb) (Kd.R_base ho1)) (Kd.R_base ho2)) (fun _ h_ => h_.1)); have n5_ := Aside0.mk (Kd.R_mono (Kd.R_told (Kd.R_told (Kd.R_old (ra_ HO_964002) hb) (Kd.R_base ho1)) (Kd.R_base ho2)) (fun _ h_ => h_.1)); have n6_ := Aside0.mk (Kd.R_elder' (ra_ HO_975000) (Kd.R_base ho0) hb); have n7_ := Aside0.mk (Kd.R_mono (Kd.R_told (Kd.R_told (Kd.R_old (ra_ HO_975001) hb) (Kd.R_base ho1)) (Kd.R_base ho2)) (fun _ h_ => h_.1)); have n8_ := Aside0.mk (Kd.R_mono (Kd.R_told (Kd.R_told (Kd.R_old (ra_ HO_975002) hb) (Kd.R_base ho1)) (Kd.R_base ho2)) (fun _ h_ => h_.1)); have n9_ := Aside0.mk (Kd.R_lower (Kd.R_new' (Kd.R_new' (Kd.R_new' ho0 (Kd.R_lt (ra_ HO_954000))) (Kd.R_lt (ra_ HO_964000))) (Kd.R_lt (ra_ HO_975000))) (below_size (bb4_ HB GE932 GE953 GE963 GE974))); have n10_ := Aside0.mk (Kd.R_lower (Kd.R_new' (Kd.R_new' (Kd.R_new' (Kd.R_new' (Kd.R_new' (Kd.R_new' ho1 (Kd.R_lt (ra_ HO_954001))) (Kd.R_lt (ra_ HO_954002))) (Kd.R_lt (ra_ HO_964001))) (Kd.R_lt (ra_ HO_964002))) (Kd.R_lt (ra_ HO_975001))) (Kd.R_lt (ra_ HO_975002))) (below_size (bb4_ HB GE932 GE953 GE963 GE974))); have n11_ := Aside0.mk (Kd.R_lower (Kd.R_new' (Kd.R_new' (Kd.R_new' (Kd.R_new' (Kd.R_new' (Kd.R_new' ho2 (Kd.R_lt (ra_ HO_954001))) (Kd.R_lt (ra_ HO_954002))) (Kd.R_lt (ra_ HO_964001))) (Kd.R_lt (ra_ HO_964002))) (Kd.R_lt (ra_ HO_975001))) (Kd.R_lt (ra_ HO_975002))) (below_size (bb4_ HB GE932 GE953 GE963 GE974))); have n12_ := Aside0.mk (lb_ BK932 hb); have n13_ := Aside0.mk (lb_ BK953 hb); have n14_ := Aside0.mk (lb_ BK963 hb); have n15_ := Aside0.mk (lb_ BK974 hb); have n16_ := Aside0.mk (below_step (bb4_ HB GE932 GE953 GE963 GE974) hb); clear HO_954000; clear HO_954001; clear HO_954002; clear HO_964000; clear HO_964001; clear HO_964002; clear HO_975000; clear HO_975001; clear HO_975002; clear BK932; clear BK953; clear BK963; clear BK974; clear HB; have HO_954000 := n0_; have HO_954001 := n1_; have HO_954002 := n2_; have HO_964000 := n3_; have HO_964001 := n4_; have HO_964002 := n5_; have HO_975000 := n6_; have HO_975001 := n7_; have HO_975002 := n8_; have HO998 := n9_; have HO1001 := n10_; have HO1004 := n11_; have BK932 := n12_; have BK953 := n13_; have BK963 := n14_; have BK974 := n15_; have HB := n16_; clear n0_ n1_ n2_ n3_ n4_ n5_ n6_ n7_ n8_ n9_ n10_ n11_ n12_ n13_ n14_ n15_ n16_; (try clear hb); (try clear hb2); (try clear hk); (try clear hi); (try clear ho0); (try clear ho1); (try clear ho2); obtain ⟨Ao119, co119, eo119⟩ := Kd.R_slice HO998.out; subst eo119; obtain ⟨Ao120, co120, eo120⟩ := Kd.R_slice HO1001.out; subst eo120; obtain ⟨Ao121, co121, eo121⟩ := Kd.R_slice HO1004.out; subst eo121) | ((with_reducible refine gate_callee (f := 42) rfl ?_); refine goesL_ (some 81) rfl rfl Try.func42 (by kernel_rfl) rfl #[.agg #[.slice Ao119 t996.length co119, .slice Ao120 t999.length co120, .slice Ao121 t1002.length co121], .int .i64 a1] rfl args_ ?_; (with_reducible refine (impl_ForgetEdits.calls kj68 _ _ t996 _ _ t999 _ _ t1002 a1 t1005 t1008 t1011 t1014 _ ?side1 ?side2 ?side3 ?side4 ?side5 ?side6 A106.out).mono ?_); (case side1 => repeat (first | exact (Kd.R_reads' HO998.out).2.2 | (with_reducible first | apply cA_ | apply cN_ | apply cD_))); (case side2 => exact (Kd.R_reads' HO998.out).2.1); (case side3 => repeat (first | exact (Kd.R_reads' HO1001.out).2.2 | (with_reducible first | apply cA_ | apply cN_ | apply cD_))); (case side4 => exact (Kd.R_reads' HO1001.out).2.1); (case side5 => repeat (first | exact (Kd.R_reads' HO1004.out).2.2 | (with_reducible first | apply cA_ | apply cN_ | apply cD_))); (case side6 => exact (Kd.R_reads' HO1004.out).2.1); rintro e w122 ⟨v1006, v1009, v1012, rfl, ho0, ho1, ho2, hb⟩; refine ⟨_, rfl, ?_⟩; have n0_ := Aside0.mk (Kd.R_elder' (ra_ HO_954000) (Kd.R_base ho0) hb); have n1_ := Aside0.mk (Kd.R_mono (Kd.R_told (Kd.R_told (Kd.R_old (ra_ HO_954001) hb) (Kd.R_base ho1)) (Kd.R_base ho2)) (fun _ h_ => h_.1)); have n2_ := Aside0.mk (Kd.R_mono (Kd.R_told (Kd.R_told (Kd.R_old (ra_ HO_954002) hb) (Kd.R_base ho1)) (Kd.R_base ho2)) (fun _ h_ => h_.1)); have n3_ := Aside0.mk (Kd.R_elder' (ra_ HO_964000) (Kd.R_base ho0) hb); have n4_ := Aside0.mk (Kd.R_mono (Kd.R_told (Kd.R_told (Kd.R_old (ra_ HO_964001) hb) (Kd.R_base ho1)) (Kd.R_base ho2)) (fun _ h_ => h_.1)); have n5_ := Aside0.mk (Kd.R_mono (Kd.R_told (Kd.R_told (Kd.R_old (ra_ HO_964002) hb) (Kd.R_base ho1)) (Kd.R_base ho2)) (fun _ h_ => h_.1)); have n6_ := Aside0.mk (Kd.R_elder' (ra_ HO_975000) (Kd.R_base ho0) hb); have n7_ := Aside0.mk (Kd.R_mono (Kd.R_told (Kd.R_told (Kd.R_old (ra_ HO_975001) hb) (Kd.R_base ho1)) (Kd.R_base ho2)) (fun _ h_ => h_.1)); have n8_ := Aside0.mk (Kd.R_mono (Kd.R_told (Kd.R_told (Kd.R_old (ra_ HO_975002) hb) (Kd.R_base ho1)) (Kd.R_base ho2)) (fun _ h_ => h_.1)); have n9_ := Aside0.mk (Kd.R_elder' (ra_ HO998) (Kd.R_base ho0) hb); have n10_ := Aside0.mk (Kd.R_mono (Kd.R_told (Kd.R_told (Kd.R_old (ra_ HO1001) hb) (Kd.R_base ho1)) (Kd.R_base ho2)) (fun _ h_ => h_.1)); have n11_ := Aside0.mk (Kd.R_mono (Kd.R_told (Kd.R_told (Kd.R_old (ra_ HO1004) hb) (Kd.R_base ho1)) (Kd.R_base ho2)) (fun _ h_ => h_.1)); have n12_ := Aside0.mk (Kd.R_lower (Kd.R_new' (Kd.R_new' (Kd.R_new' (Kd.R_new' ho0 (Kd.R_lt (ra_ HO_954000))) (Kd.R_lt (ra_ HO_964000))) (Kd.R_lt (ra_ HO_975000))) (Kd.R_lt (ra_ HO998))) (below_size (bb4_ HB GE932 GE953 GE963 GE974))); have n13_ := Aside0.mk (Kd.R_lower (Kd.R_new' (Kd.R_new' (Kd.R_new' (Kd.R_new' (Kd.R_new' (Kd.R_new' (Kd.R_new' (Kd.R_new' ho1 (Kd.R_lt (ra_ HO_954001))) (Kd.R_lt (ra_ HO_954002))) (Kd.R_lt (ra_ HO_964001))) (Kd.R_lt (ra_ HO_964002))) (Kd.R_lt (ra_ HO_975001))) (Kd.R_lt (ra_ HO_975002))) (Kd.R_lt (ra_ HO1001))) (Kd.R_lt (ra_ HO1004))) (below_size (bb4_ HB GE932 GE953 GE963 GE974))); have n14_ := Aside0.mk (Kd.R_lower (Kd.R_new' (Kd.R_new' (Kd.R_new' (Kd.R_new' (Kd.R_new' (Kd.R_new' (Kd.R_new' (Kd.R_new' ho2 (Kd.R_lt (ra_ HO_954001))) (Kd.R_lt (ra_ HO_954002))) (Kd.R_lt (ra_ HO_964001))) (Kd.R_lt (ra_ HO_964002))) (Kd.R_lt (ra_ HO_975001))) (Kd.R_lt (ra_ HO_975002))) (Kd.R_lt (ra_ HO1001))) (Kd.R_lt (ra_ HO1004))) (below_size (bb4_ HB GE932 GE953 GE963 GE974))); have n15_ := Aside0.mk (lb_ BK932 hb); have n16_ := Aside0.mk (lb_ BK953 hb); have n17_ := Aside0.mk (lb_ BK963 hb); have n18_ := Aside0.mk (lb_ BK974 hb); have n19_ := Aside0.mk (below_step (bb4_ HB GE932 GE953 GE963 GE974) hb); clear HO_954000; clear HO_954001; clear HO_954002; clear HO_964000; clear HO_964001; clear HO_964002; clear HO_975000; clear HO_975001; clear HO_975002; clear HO998; clear HO1001; clear HO1004; clear BK932; clear BK953; clear BK963; clear BK974; clear HB; have HO_954000 := n0_; have HO_954001 := n1_; have HO_954002 := n2_; have HO_964000 := n3_; have HO_964001 := n4_; have HO_964002 := n5_; have HO_975000 := n6_; have HO_975001 := n7_; have HO_975002 := n8_; have HO998 := n9_; have HO1001 := n10_; have HO1004 := n11_; have HO1007 := n12_; have HO1010 := n13_; have HO1013 := n14_; have BK932 := n15_; have BK953 := n16_; have BK963 := n17_; have BK974 := n18_; have HB := n19_; clear n0_ n1_ n2_ n3_ n4_ n5_ n6_ n7_ n8_ n9_ n10_ n11_ n12_ n13_ n14_ n15_ n16_ n17_ n18_ n19_; (try clear hb); (try clear hb2); (try clear hk); (try clear hi); (try clear ho0); (try clear ho1); (try clear ho2)) | ((with_reducible refine gate_dst (N := 14) rfl ?_); refine box_event ?hg (N := 14) ?hd (cs := #[.slice none 0 0, .slice none 0 0, .slice none 0 0]) (t := 35) ?hr ?_; (case hd => rfl); (case hg => rfl); (case hr => first | (go_simp; done) | (go_simp; rfl)); intro gb1015 hg w123 hbox hb; have n0_ := Aside0.mk (Kd.R_below (ra_ HO_954000) hb); have n1_ := Aside0.mk (Kd.R_below (ra_ HO_954001) hb); have n2_ := Aside0.mk (Kd.R_below (ra_ HO_954002) hb); have n3_ := Aside0.mk (Kd.R_below (ra_ HO_964000) hb); have n4_ := Aside0.mk (Kd.R_below (ra_ HO_964001) hb); have n5_ := Aside0.mk (Kd.R_below (ra_ HO_964002) hb); have n6_ := Aside0.mk (Kd.R_below (ra_ HO_975000) hb); have n7_ := Aside0.mk (Kd.R_below (ra_ HO_975001) hb); have n8_ := Aside0.mk (Kd.R_below (ra_ HO_975002) hb); have n9_ := Aside0.mk (Kd.R_below (ra_ HO998) hb); have n10_ := Aside0.mk (Kd.R_below (ra_ HO1001) hb); have n11_ := Aside0.mk (Kd.R_below (ra_ HO1004) hb); have n12_ := Aside0.mk (Kd.R_below (ra_ HO1007) hb); have n13_ := Aside0.mk (Kd.R_below (ra_ HO1010) hb); have n14_ := Aside0.mk (Kd.R_below (ra_ HO1013) hb); have n15_ := Aside0.mk (lb_ BK932 hb); have n16_ := Aside0.mk (lb_ BK953 hb); have n17_ := Aside0.mk (lb_ BK963 hb); have n18_ := Aside0.mk (lb_ BK974 hb); have n19_ := Aside0.mk (below_step (bb4_ HB GE932 GE953 GE963 GE974) hb); have n20_ := Aside0.mk (hbox); have n21_ := Aside0.mk ((by rw [hg]; exact (below_size (bb4_ HB GE932 GE953 GE963 GE974)) : w.heap.size ≤ gb1015)); have n22_ := Aside0.mk ((by rw [hg]; exact (below_size (bb4_ HB GE932 GE953 GE963 GE974)) : w.heap.size ≤ gb1015)); have n23_ := Aside0.mk ((by rw [hg]; exact Nat.ne_of_lt (blk_lt (g := gb932) (o := .cells #[.slice A0_0 l0_0.length c0_0, .slice A0_1 l0_1.length c0_1, .slice A0_2 l0_2.length c0_2] 45 (0, 0)) (la_ BK932)) : gb932 ≠ gb1015)); have n24_ := Aside0.mk ((by rw [hg]; exact Nat.ne_of_gt (blk_lt (g := gb932) (o := .cells #[.slice A0_0 l0_0.length c0_0, .slice A0_1 l0_1.length c0_1, .slice A0_2 l0_2.length c0_2] 45 (0, 0)) (la_ BK932)) : gb1015 ≠ gb932)); have n25_ := Aside0.mk ((by rw [hg]; exact Nat.ne_of_lt (blk_lt (g := gb953) (o := .cells #[.slice Ao23 t943.length co23, .slice Ao26 t946.length co26, .slice Ao27 t949.length co27] 35 (0, 0)) (la_ BK953)) : gb953 ≠ gb1015)); have n26_ := Aside0.mk ((by rw [hg]; exact Nat.ne_of_gt (blk_lt (g := gb953) (o := .cells #[.slice Ao23 t943.length co23, .slice Ao26 t946.length co26, .slice Ao27 t949.length co27] 35 (0, 0)) (la_ BK953)) : gb1015 ≠ gb953)); have n27_ := Aside0.mk ((by rw [hg]; exact Nat.ne_of_lt (blk_lt (g := gb963) (o := .cells #[.slice Ao31 t987.length co31, .slice Ao35 t988.length co35, .slice Ao36 t989.length co36] 35 (0, 0)) (la_ BK963)) : gb963 ≠ gb1015)); have n28_ := Aside0.mk ((by rw [hg]; exact Nat.ne_of_gt (blk_lt (g := gb963) (o := .cells #[.slice Ao31 t987.length co31, .slice Ao35 t988.length co35, .slice Ao36 t989.length co36] 35 (0, 0)) (la_ BK963)) : gb1015 ≠ gb963)); have n29_ := Aside0.mk ((by rw [hg]; exact Nat.ne_of_lt (blk_lt (g := gb974) (o := .cells #[.slice Ao39 t964.length co39, .slice Ao44 t967.length co44, .slice Ao45 t970.length co45] 35 (0, 0)) (la_ BK974)) : gb974 ≠ gb1015)); have n30_ := Aside0.mk ((by rw [hg]; exact Nat.ne_of_gt (blk_lt (g := gb974) (o := .cells #[.slice Ao39 t964.length co39, .slice Ao44 t967.length co44, .slice Ao45 t970.length co45] 35 (0, 0)) (la_ BK974)) : gb1015 ≠ gb974)); clear HO_954000; clear HO_954001; clear HO_954002; clear HO_964000; clear HO_964001; clear HO_964002; clear HO_975000; clear HO_975001; clear HO_975002; clear HO998; clear HO1001; clear HO1004; clear HO1007; clear HO1010; clear HO1013; clear BK932; clear BK953; clear BK963; clear BK974; clear HB; have HO_954000 := n0_; have HO_954001 := n1_; have HO_954002 := n2_; have HO_964000 := n3_; have HO_964001 := n4_; have HO_964002 := n5_; have HO_975000 := n6_; have HO_975001 := n7_; have HO_975002 := n8_; have HO998 := n9_; have HO1001 := n10_; have HO1004 := n11_; have HO1007 := n12_; have HO1010 := n13_; have HO1013 := n14_; have BK932 := n15_; have BK953 := n16_; have BK963 := n17_; have BK974 := n18_; have HB := n19_; have BK1015 := n20_; have GW1015 := n21_; have GE1015 := n22_; have NB932_1015 := n23_; have NB1015_932 := n24_; have NB953_1015 := n25_; have NB1015_953 := n26_; have NB963_1015 := n27_; have NB1015_963 := n28_; have NB974_1015 := n29_; have NB1015_974 := n30_; clear n0_ n1_ n2_ n3_ n4_ n5_ n6_ n7_ n8_ n9_ n10_ n11_ n12_ n13_ n14_ n15_ n16_ n17_ n18_ n19_ n20_ n21_ n22_ n23_ n24_ n25_ n26_ n27_ n28_ n29_ n30_; clear hb hbox hg; obtain ⟨Ao124, co124, eo124⟩ := Kd.R_slice HO1007.out; subst eo124; have hnb125 := NB1015_932.out; have hnc125 := NB932_1015.out; have hnb126 := NB1015_953.out; have hnc126 := NB953_1015.out; have hnb127 := NB1015_963.out; have hnc127 := NB963_1015.out; have hnb128 := NB1015_974.out; have hnc128 := NB974_1015.out; have hcz129_0 : w123.cell? ⟨gb1015, 0, none⟩ = some (.slice none 0 0) := (blk_cell BK1015.out 0).trans rfl; have hcz129_1 : w123.cell? ⟨gb1015, 1, none⟩ = some (.slice none 0 0) := (blk_cell BK1015.out 1).trans rfl; have hcz129_2 : w123.cell? ⟨gb1015, 2, none⟩ = some (.slice none 0 0) := (blk_cell BK1015.out 2).trans rfl; have hfz129_0 := blk_frozen BK1015.out 0; have hfz129_1 := blk_frozen BK1015.out 1; have hfz129_2 := blk_frozen BK1015.out 2; obtain ⟨Ao130, co130, eo130⟩ := Kd.R_slice HO1010.out; subst eo130; obtain ⟨Ao131, co131, eo131⟩ := Kd.R_slice HO1013.out; subst eo131))
           (try simp only [Act.put, List.setIfInBounds_toArray, List.set_cons_zero, List.set_cons_succ])
           go_cut [92] (fun v92 wc => ∃ (kq : Nat) (x92_106 : Bool), v92 = .bool x92_106 ∧ Aside0 (laws_FnExactForgetEdits.j2 kq t991 x92_106 t992 t993 t994 = some r) ∧ Aside0 (kq ≤ kj68) ∧ Aside0 (Kd.R Kd.string 9 wc w.heap.size (fun k_ => some k_ ≠ ((.slice Ao31 t987.length co31) : Value).ownBlock ∧ some k_ ≠ ((.slice Ao39 t964.length co39) : Value).ownBlock ∧ some k_ ≠ ((.slice Ao124 t1005.length co124) : Value).ownBlock) (.slice Ao23 t943.length co23) t943) ∧ Aside0 (Kd.R k25 25 wc w.heap.size (fun k_ => some k_ ≠ ((.slice Ao27 t949.length co27) : Value).ownBlock ∧ some k_ ≠ ((.slice Ao35 t988.length co35) : Value).ownBlock ∧ some k_ ≠ ((.slice Ao36 t989.length co36) : Value).ownBlock ∧ some k_ ≠ ((.slice Ao44 t967.length co44) : Value).ownBlock ∧ some k_ ≠ ((.slice Ao45 t970.length co45) : Value).ownBlock ∧ some k_ ≠ ((.slice Ao130 t1008.length co130) : Value).ownBlock ∧ some k_ ≠ ((.slice Ao131 t1011.length co131) : Value).ownBlock) (.slice Ao26 t946.length co26) t946) ∧ Aside0 (Kd.R k25 25 wc w.heap.size (fun k_ => some k_ ≠ ((.slice Ao26 t946.length co26) : Value).ownBlock ∧ some k_ ≠ ((.slice Ao35 t988.length co35) : Value).ownBlock ∧ some k_ ≠ ((.slice Ao36 t989.length co36) : Value).ownBlock ∧ some k_ ≠ ((.slice Ao44 t967.length co44) : Value).ownBlock ∧ some k_ ≠ ((.slice Ao45 t970.length co45) : Value).ownBlock ∧ some k_ ≠ ((.slice Ao130 t1008.length co130) : Value).ownBlock ∧ some k_ ≠ ((.slice Ao131 t1011.length co131) : Value).ownBlock) (.slice Ao27 t949.length co27) t949) ∧ Aside0 (Kd.R Kd.string 9 wc w.heap.size (fun k_ => some k_ ≠ ((.slice Ao23 t943.length co23) : Value).ownBlock ∧ some k_ ≠ ((.slice Ao39 t964.length co39) : Value).ownBlock ∧ some k_ ≠ ((.slice Ao124 t1005.length co124) : Value).ownBlock) (.slice Ao31 t987.length co31) t987) ∧ Aside0 (Kd.R k25 25 wc w.heap.size (fun k_ => some k_ ≠ ((.slice Ao26 t946.length co26) : Value).ownBlock ∧ some k_ ≠ ((.slice Ao27 t949.length co27) : Value).ownBlock ∧ some k_ ≠ ((.slice Ao36 t989.length co36) : Value).ownBlock ∧ some k_ ≠ ((.slice Ao44 t967.length co44) : Value).ownBlock ∧ some k_ ≠ ((.slice Ao45 t970.length co45) : Value).ownBlock ∧ some k_ ≠ ((.slice Ao130 t1008.length co130) : Value).ownBlock ∧ some k_ ≠ ((.slice Ao131 t1011.length co131) : Value).ownBlock) (.slice Ao35 t988.length co35) t988) ∧ Aside0 (Kd.R k25 25 wc w.heap.size (fun k_ => some k_ ≠ ((.slice Ao26 t946.length co26) : Value).ownBlock ∧ some k_ ≠ ((.slice Ao27 t949.length co27) : Value).ownBlock ∧ some k_ ≠ ((.slice Ao35 t988.length co35) : Value).ownBlock ∧ some k_ ≠ ((.slice Ao44 t967.length co44) : Value).ownBlock ∧ some k_ ≠ ((.slice Ao45 t970.length co45) : Value).ownBlock ∧ some k_ ≠ ((.slice Ao130 t1008.length co130) : Value).ownBlock ∧ some k_ ≠ ((.slice Ao131 t1011.length co131) : Value).ownBlock) (.slice Ao36 t989.length co36) t989) ∧ Aside0 (Kd.R Kd.string 9 wc w.heap.size (fun k_ => some k_ ≠ ((.slice Ao23 t943.length co23) : Value).ownBlock ∧ some k_ ≠ ((.slice Ao31 t987.length co31) : Value).ownBlock ∧ some k_ ≠ ((.slice Ao124 t1005.length co124) : Value).ownBlock) (.slice Ao39 t964.length co39) t992) ∧ Aside0 (Kd.R k25 25 wc w.heap.size (fun k_ => some k_ ≠ ((.slice Ao26 t946.length co26) : Value).ownBlock ∧ some k_ ≠ ((.slice Ao27 t949.length co27) : Value).ownBlock ∧ some k_ ≠ ((.slice Ao35 t988.length co35) : Value).ownBlock ∧ some k_ ≠ ((.slice Ao36 t989.length co36) : Value).ownBlock ∧ some k_ ≠ ((.slice Ao45 t970.length co45) : Value).ownBlock ∧ some k_ ≠ ((.slice Ao130 t1008.length co130) : Value).ownBlock ∧ some k_ ≠ ((.slice Ao131 t1011.length co131) : Value).ownBlock) (.slice Ao44 t967.length co44) t993) ∧ Aside0 (Kd.R k25 25 wc w.heap.size (fun k_ => some k_ ≠ ((.slice Ao26 t946.length co26) : Value).ownBlock ∧ some k_ ≠ ((.slice Ao27 t949.length co27) : Value).ownBlock ∧ some k_ ≠ ((.slice Ao35 t988.length co35) : Value).ownBlock ∧ some k_ ≠ ((.slice Ao36 t989.length co36) : Value).ownBlock ∧ some k_ ≠ ((.slice Ao44 t967.length co44) : Value).ownBlock ∧ some k_ ≠ ((.slice Ao130 t1008.length co130) : Value).ownBlock ∧ some k_ ≠ ((.slice Ao131 t1011.length co131) : Value).ownBlock) (.slice Ao45 t970.length co45) t994) ∧ Aside0 (Kd.R Kd.string 9 wc w.heap.size (fun k_ => some k_ ≠ ((.slice Ao23 t943.length co23) : Value).ownBlock ∧ some k_ ≠ ((.slice Ao31 t987.length co31) : Value).ownBlock ∧ some k_ ≠ ((.slice Ao39 t964.length co39) : Value).ownBlock) (.slice Ao124 t1005.length co124) t1005) ∧ Aside0 (Kd.R k25 25 wc w.heap.size (fun k_ => some k_ ≠ ((.slice Ao26 t946.length co26) : Value).ownBlock ∧ some k_ ≠ ((.slice Ao27 t949.length co27) : Value).ownBlock ∧ some k_ ≠ ((.slice Ao35 t988.length co35) : Value).ownBlock ∧ some k_ ≠ ((.slice Ao36 t989.length co36) : Value).ownBlock ∧ some k_ ≠ ((.slice Ao44 t967.length co44) : Value).ownBlock ∧ some k_ ≠ ((.slice Ao45 t970.length co45) : Value).ownBlock ∧ some k_ ≠ ((.slice Ao131 t1011.length co131) : Value).ownBlock) (.slice Ao130 t1008.length co130) t1008) ∧ Aside0 (Kd.R k25 25 wc w.heap.size (fun k_ => some k_ ≠ ((.slice Ao26 t946.length co26) : Value).ownBlock ∧ some k_ ≠ ((.slice Ao27 t949.length co27) : Value).ownBlock ∧ some k_ ≠ ((.slice Ao35 t988.length co35) : Value).ownBlock ∧ some k_ ≠ ((.slice Ao36 t989.length co36) : Value).ownBlock ∧ some k_ ≠ ((.slice Ao44 t967.length co44) : Value).ownBlock ∧ some k_ ≠ ((.slice Ao45 t970.length co45) : Value).ownBlock ∧ some k_ ≠ ((.slice Ao130 t1008.length co130) : Value).ownBlock) (.slice Ao131 t1011.length co131) t1011) ∧ Aside0 (wc.heap[gb932]? = some (.cells #[(.slice A0_0 l0_0.length c0_0), (.slice A0_1 l0_1.length c0_1), (.slice A0_2 l0_2.length c0_2)] 45 (0, 0))) ∧ Aside0 (wc.heap[gb953]? = some (.cells #[(.slice Ao23 t943.length co23), (.slice Ao26 t946.length co26), (.slice Ao27 t949.length co27)] 35 (0, 0))) ∧ Aside0 (wc.heap[gb963]? = some (.cells #[(.slice Ao31 t987.length co31), (.slice Ao35 t988.length co35), (.slice Ao36 t989.length co36)] 35 (0, 0))) ∧ Aside0 (wc.heap[gb974]? = some (.cells #[(.slice Ao39 t964.length co39), (.slice Ao44 t967.length co44), (.slice Ao45 t970.length co45)] 35 (0, 0))) ∧ Aside0 (wc.heap[gb1015]? = some (.cells #[(.slice Ao124 t1005.length co124), (.slice Ao130 t1008.length co130), (.slice Ao131 t1011.length co131)] 35 (0, 0))) ∧ Aside0 (Below w.heap.size w wc))
           case first =>
            have H := HC107.out
            clear HC107
            replace H := Option.bind_eq_some_iff.mp H
            obtain ⟨t1016, A1320, H⟩ := H
            try dsimp only at H
            have A132 := Aside0.mk A1320
            clear A1320
            by_cases c133 : t1016 = true
            ·subst c133
             have H1 : (laws_FnExactForgetEdits.j2 kj68 t991 (t1014 != t952) t992 t993 t994) = some r := by rw [if_pos rfl] at H; exact H
             clear H
             have H := H1
             clear H1
             have H' := Aside0.mk H
             clear H
             have hnb134 := NB1015_932.out
             have hnc134 := NB932_1015.out
             have hnb135 := NB1015_953.out
             have hnc135 := NB953_1015.out
             have hnb136 := NB1015_963.out
             have hnc136 := NB963_1015.out
             have hnb137 := NB1015_974.out
             have hnc137 := NB974_1015.out
             have hcz138_0 : w123.cell? ⟨gb1015, 0, none⟩ = some (.slice none 0 0) := (blk_cell BK1015.out 0).trans rfl
             have hcz138_1 : w123.cell? ⟨gb1015, 1, none⟩ = some (.slice none 0 0) := (blk_cell BK1015.out 1).trans rfl
             have hcz138_2 : w123.cell? ⟨gb1015, 2, none⟩ = some (.slice none 0 0) := (blk_cell BK1015.out 2).trans rfl
             have hfz138_0 := blk_frozen BK1015.out 0
             have hfz138_1 := blk_frozen BK1015.out 1
             have hfz138_2 := blk_frozen BK1015.out 2
             have hnb139 := NB953_932.out
             have hnc139 := NB932_953.out
             have hnb140 := NB953_963.out
             have hnc140 := NB963_953.out
             have hnb141 := NB953_974.out
             have hnc141 := NB974_953.out
             have hcz142_0 : w123.cell? ⟨gb953, 0, none⟩ = some (.slice Ao23 t943.length co23) := (blk_cell BK953.out 0).trans rfl
             have hcz142_1 : w123.cell? ⟨gb953, 1, none⟩ = some (.slice Ao26 t946.length co26) := (blk_cell BK953.out 1).trans rfl
             have hcz142_2 : w123.cell? ⟨gb953, 2, none⟩ = some (.slice Ao27 t949.length co27) := (blk_cell BK953.out 2).trans rfl
             have hfz142_0 := blk_frozen BK953.out 0
             have hfz142_1 := blk_frozen BK953.out 1
             have hfz142_2 := blk_frozen BK953.out 2
             go_wp2_with (first | ((with_reducible refine gate_callee (f := 23) rfl ?_); refine goesL_ (some 86) rfl rfl Try.func23 (by kernel_rfl) rfl #[.agg #[.slice Ao124 t1005.length co124, .slice Ao130 t1008.length co130, .slice Ao131 t1011.length co131], .agg #[.slice Ao23 t943.length co23, .slice Ao26 t946.length co26, .slice Ao27 t949.length co27]] rfl args_ ?_; (with_reducible refine (laws_eqDesk.calls kj68 _ _ t1005 _ _ t1008 _ _ t1011 _ _ t943 _ _ t946 _ _ t949 true _ ?side1 ?side2 ?side3 ?side4 ?side5 ?side6 ?side7 ?side8 ?side9 ?side10 ?side11 ?side12 A132.out).mono ?_); (case side1 => refine (Kd.R_reads' (e := 9) (base := w.heap.size) (ok := fun k_ => ((((True ∧ some k_ ≠ (.slice Ao23 t943.length co23 : Value).ownBlock) ∧ some k_ ≠ (.slice Ao31 t987.length co31 : Value).ownBlock) ∧ some k_ ≠ (.slice Ao39 t964.length co39 : Value).ownBlock) ∧ some k_ ≠ (.slice Ao119 t996.length co119 : Value).ownBlock)) (n := t1005.length) (c := co124) ?_).2.2; exact (rf_ (fm_ (fr_ (fr_ (fr_ (ft_ HO1007 BK1015) 0 (.slice Ao124 t1005.length co124)) 1 (.slice Ao130 t1008.length co130)) 2 (.slice Ao131 t1011.length co131))))); (case side2 => exact (Kd.R_reads' HO1007.out).2.1); (case side3 => refine (Kd.R_reads' (e := 25) (base := w.heap.size) (ok := fun k_ => ((((((((some k_ ≠ (.slice Ao131 t1011.length co131 : Value).ownBlock ∧ some k_ ≠ (.slice Ao26 t946.length co26 : Value).ownBlock) ∧ some k_ ≠ (.slice Ao27 t949.length co27 : Value).ownBlock) ∧ some k_ ≠ (.slice Ao35 t988.length co35 : Value).ownBlock) ∧ some k_ ≠ (.slice Ao36 t989.length co36 : Value).ownBlock) ∧ some k_ ≠ (.slice Ao44 t967.length co44 : Value).ownBlock) ∧ some k_ ≠ (.slice Ao45 t970.length co45 : Value).ownBlock) ∧ some k_ ≠ (.slice Ao120 t999.length co120 : Value).ownBlock) ∧ some k_ ≠ (.slice Ao121 t1002.length co121 : Value).ownBlock)) (n := t1008.length) (c := co130) ?_).2.2; exact (rf_ (fm_ (fr_ (fr_ (fr_ (ft_ HO1010 BK1015) 0 (.slice Ao124 t1005.length co124)) 1 (.slice Ao130 t1008.length co130)) 2 (.slice Ao131 t1011.length co131))))); (case side4 => exact (Kd.R_reads' HO1010.out).2.1); (case side5 => refine (Kd.R_reads' (e := 25) (base := w.heap.size) (ok := fun k_ => ((((((((some k_ ≠ (.slice Ao130 t1008.length co130 : Value).ownBlock ∧ some k_ ≠ (.slice Ao26 t946.length co26 : Value).ownBlock) ∧ some k_ ≠ (.slice Ao27 t949.length co27 : Value).ownBlock) ∧ some k_ ≠ (.slice Ao35 t988.length co35 : Value).ownBlock) ∧ some k_ ≠ (.slice Ao36 t989.length co36 : Value).ownBlock) ∧ some k_ ≠ (.slice Ao44 t967.length co44 : Value).ownBlock) ∧ some k_ ≠ (.slice Ao45 t970.length co45 : Value).ownBlock) ∧ some k_ ≠ (.slice Ao120 t999.length co120 : Value).ownBlock) ∧ some k_ ≠ (.slice Ao121 t1002.length co121 : Value).ownBlock)) (n := t1011.length) (c := co131) ?_).2.2; exact (rf_ (fm_ (fr_ (fr_ (fr_ (ft_ HO1013 BK1015) 0 (.slice Ao124 t1005.length co124)) 1 (.slice Ao130 t1008.length co130)) 2 (.slice Ao131 t1011.length co131))))); (case side6 => exact (Kd.R_reads' HO1013.out).2.1); (case side7 => refine (Kd.R_reads' (e := 9) (base := w.heap.size) (ok := fun k_ => (((some k_ ≠ (.slice Ao31 t987.length co31 : Value).ownBlock ∧ some k_ ≠ (.slice Ao39 t964.length co39 : Value).ownBlock) ∧ some k_ ≠ (.slice Ao119 t996.length co119 : Value).ownBlock) ∧ some k_ ≠ (.slice Ao124 t1005.length co124 : Value).ownBlock)) (n := t943.length) (c := co23) ?_).2.2; exact (rf_ (fm_ (fr_ (fr_ (fr_ (ft_ HO_954000 BK1015) 0 (.slice Ao124 t1005.length co124)) 1 (.slice Ao130 t1008.length co130)) 2 (.slice Ao131 t1011.length co131))))); (case side8 => exact (Kd.R_reads' HO_954000.out).2.1); (case side9 => refine (Kd.R_reads' (e := 25) (base := w.heap.size) (ok := fun k_ => (((((some k_ ≠ (.slice Ao27 t949.length co27 : Value).ownBlock ∧ (some k_ ≠ (.slice Ao35 t988.length co35 : Value).ownBlock ∧ (some k_ ≠ (.slice Ao36 t989.length co36 : Value).ownBlock ∧ (some k_ ≠ (.slice Ao44 t967.length co44 : Value).ownBlock ∧ some k_ ≠ (.slice Ao45 t970.length co45 : Value).ownBlock)))) ∧ some k_ ≠ (.slice Ao120 t999.length co120 : Value).ownBlock) ∧ some k_ ≠ (.slice Ao121 t1002.length co121 : Value).ownBlock) ∧ some k_ ≠ (.slice Ao130 t1008.length co130 : Value).ownBlock) ∧ some k_ ≠ (.slice Ao131 t1011.length co131 : Value).ownBlock)) (n := t946.length) (c := co26) ?_).2.2; exact (rf_ (fm_ (fr_ (fr_ (fr_ (ft_ HO_954001 BK1015) 0 (.slice Ao124 t1005.length co124)) 1 (.slice Ao130 t1008.length co130)) 2 (.slice Ao131 t1011.length co131))))); (case side10 => exact (Kd.R_reads' HO_954001.out).2.1); (case side11 => refine (Kd.R_reads' (e := 25) (base := w.heap.size) (ok := fun k_ => (((((some k_ ≠ (.slice Ao26 t946.length co26 : Value).ownBlock ∧ (some k_ ≠ (.slice Ao35 t988.length co35 : Value).ownBlock ∧ (some k_ ≠ (.slice Ao36 t989.length co36 : Value).ownBlock ∧ (some k_ ≠ (.slice Ao44 t967.length co44 : Value).ownBlock ∧ some k_ ≠ (.slice Ao45 t970.length co45 : Value).ownBlock)))) ∧ some k_ ≠ (.slice Ao120 t999.length co120 : Value).ownBlock) ∧ some k_ ≠ (.slice Ao121 t1002.length co121 : Value).ownBlock) ∧ some k_ ≠ (.slice Ao130 t1008.length co130 : Value).ownBlock) ∧ some k_ ≠ (.slice Ao131 t1011.length co131 : Value).ownBlock)) (n := t949.length) (c := co27) ?_).2.2; exact (rf_ (fm_ (fr_ (fr_ (fr_ (ft_ HO_954002 BK1015) 0 (.slice Ao124 t1005.length co124)) 1 (.slice Ao130 t1008.length co130)) 2 (.slice Ao131 t1011.length co131))))); (case side12 => exact (Kd.R_reads' HO_954002.out).2.1); rintro e w143 ⟨rfl, hb⟩; refine ⟨_, rfl, ?_⟩; have n0_ := Aside0.mk (Kd.R_below (rf_ (fm_ (fr_ (fr_ (fr_ (ft_ HO_954000 BK1015) 0 (.slice Ao124 t1005.length co124)) 1 (.slice Ao130 t1008.length co130)) 2 (.slice Ao131 t1011.length co131)))) hb); have n1_ := Aside0.mk (Kd.R_below (rf_ (fm_ (fr_ (fr_ (fr_ (ft_ HO_954001 BK1015) 0 (.slice Ao124 t1005.length co124)) 1 (.slice Ao130 t1008.length co130)) 2 (.slice Ao131 t1011.length co131)))) hb); have n2_ := Aside0.mk (Kd.R_below (rf_ (fm_ (fr_ (fr_ (fr_ (ft_ HO_954002 BK1015) 0 (.slice Ao124 t1005.length co124)) 1 (.slice Ao130 t1008.length co130)) 2 (.slice Ao131 t1011.length co131)))) hb); have n3_ := Aside0.mk (Kd.R_below (rf_ (fm_ (fr_ (fr_ (fr_ (ft_ HO_964000 BK1015) 0 (.slice Ao124 t1005.length co124)) 1 (.slice Ao130 t1008.length co130)) 2 (.slice Ao131 t1011.length co131)))) hb); have n4_ := Aside0.mk (Kd.R_below (rf_ (fm_ (fr_ (fr_ (fr_ (ft_ HO_964001 BK1015) 0 (.slice Ao124 t1005.length co124)) 1 (.slice Ao130 t1008.length co130)) 2 (.slice Ao131 t1011.length co131)))) hb); have n5_ := Aside0.mk (Kd.R_below (rf_ (fm_ (fr_ (fr_ (fr_ (ft_ HO_964002 BK1015) 0 (.slice Ao124 t1005.length co124)) 1 (.slice Ao130 t1008.length co130)) 2 (.slice Ao131 t1011.length co131)))) hb); have n6_ := Aside0.mk (Kd.R_below (rf_ (fm_ (fr_ (fr_ (fr_ (ft_ HO_975000 BK1015) 0 (.slice Ao124 t1005.length co124)) 1 (.slice Ao130 t1008.length co130)) 2 (.slice Ao131 t1011.length co131)))) hb); have n7_ := Aside0.mk (Kd.R_below (rf_ (fm_ (fr_ (fr_ (fr_ (ft_ HO_975001 BK1015) 0 (.slice Ao124 t1005.length co124)) 1 (.slice Ao130 t1008.length co130)) 2 (.slice Ao131 t1011.length co131)))) hb); have n8_ := Aside0.mk (Kd.R_below (rf_ (fm_ (fr_ (fr_ (fr_ (ft_ HO_975002 BK1015) 0 (.slice Ao124 t1005.length co124)) 1 (.slice Ao130 t1008.length co130)) 2 (.slice Ao131 t1011.length co131)))) hb); have n9_ := Aside0.mk (Kd.R_below (rf_ (fm_ (fr_ (fr_ (fr_ (ft_ HO998 BK1015) 0 (.slice Ao124 t1005.length co124)) 1 (.slice Ao130 t1008.length co130)) 2 (.slice Ao131 t1011.length co131)))) hb); have n10_ := Aside0.mk (Kd.R_below (rf_ (fm_ (fr_ (fr_ (fr_ (ft_ HO1001 BK1015) 0 (.slice Ao124 t1005.length co124)) 1 (.slice Ao130 t1008.length co130)) 2 (.slice Ao131 t1011.length co131)))) hb); have n11_ := Aside0.mk (Kd.R_below (rf_ (fm_ (fr_ (fr_ (fr_ (ft_ HO1004 BK1015) 0 (.slice Ao124 t1005.length co124)) 1 (.slice Ao130 t1008.length co130)) 2 (.slice Ao131 t1011.length co131)))) hb); have n12_ := Aside0.mk (Kd.R_below (rf_ (fm_ (fr_ (fr_ (fr_ (ft_ HO1007 BK1015) 0 (.slice Ao124 t1005.length co124)) 1 (.slice Ao130 t1008.length co130)) 2 (.slice Ao131 t1011.length co131)))) hb); have n13_ := Aside0.mk (Kd.R_below (rf_ (fm_ (fr_ (fr_ (fr_ (ft_ HO1010 BK1015) 0 (.slice Ao124 t1005.length co124)) 1 (.slice Ao130 t1008.length co130)) 2 (.slice Ao131 t1011.length co131)))) hb); have n14_ := Aside0.mk (Kd.R_below (rf_ (fm_ (fr_ (fr_ (fr_ (ft_ HO1013 BK1015) 0 (.slice Ao124 t1005.length co124)) 1 (.slice Ao130 t1008.length co130)) 2 (.slice Ao131 t1011.length co131)))) hb); have n15_ := Aside0.mk (blk_below (g := gb932) (o := .cells #[.slice A0_0 l0_0.length c0_0, .slice A0_1 l0_1.length c0_1, .slice A0_2 l0_2.length c0_2] 45 (0, 0)) (by (with_reducible repeat (first | apply lN_ | apply lD_ | apply lA_)); refine blk_far ?_ NB932_1015.out _; (with_reducible repeat (first | apply lN_ | apply lD_ | apply lA_)); refine blk_far ?_ NB932_1015.out _; (with_reducible repeat (first | apply lN_ | apply lD_ | apply lA_)); refine blk_far ?_ NB932_1015.out _; (with_reducible repeat (first | apply lN_ | apply lD_ | apply lA_)); exact BK932.out) hb); have n16_ := Aside0.mk (blk_below (g := gb953) (o := .cells #[.slice Ao23 t943.length co23, .slice Ao26 t946.length co26, .slice Ao27 t949.length co27] 35 (0, 0)) (by (with_reducible repeat (first | apply lN_ | apply lD_ | apply lA_)); refine blk_far ?_ NB953_1015.out _; (with_reducible repeat (first | apply lN_ | apply lD_ | apply lA_)); refine blk_far ?_ NB953_1015.out _; (with_reducible repeat (first | apply lN_ | apply lD_ | apply lA_)); refine blk_far ?_ NB953_1015.out _; (with_reducible repeat (first | apply lN_ | apply lD_ | apply lA_)); exact BK953.out) hb); have n17_ := Aside0.mk (blk_below (g := gb963) (o := .cells #[.slice Ao31 t987.length co31, .slice Ao35 t988.length co35, .slice Ao36 t989.length co36] 35 (0, 0)) (by (with_reducible repeat (first | apply lN_ | apply lD_ | apply lA_)); refine blk_far ?_ NB963_1015.out _; (with_reducible repeat (first | apply lN_ | apply lD_ | apply lA_)); refine blk_far ?_ NB963_1015.out _; (with_reducible repeat (first | apply lN_ | apply lD_ | apply lA_)); refine blk_far ?_ NB963_1015.out _; (with_reducible repeat (first | apply lN_ | apply lD_ | apply lA_)); exact BK963.out) hb); have n18_ := Aside0.mk (blk_below (g := gb974) (o := .cells #[.slice Ao39 t964.length co39, .slice Ao44 t967.length co44, .slice Ao45 t970.length co45] 35 (0, 0)) (by (with_reducible repeat (first | apply lN_ | apply lD_ | apply lA_)); refine blk_far ?_ NB974_1015.out _; (with_reducible repeat (first | apply lN_ | apply lD_ | apply lA_)); refine blk_far ?_ NB974_1015.out _; (with_reducible repeat (first | apply lN_ | apply lD_ | apply lA_)); refine blk_far ?_ NB974_1015.out _; (with_reducible repeat (first | apply lN_ | apply lD_ | apply lA_)); exact BK974.out) hb); have n19_ := Aside0.mk (blk_below (g := gb1015) (o := .cells #[.slice Ao124 t1005.length co124, .slice Ao130 t1008.length co130, .slice Ao131 t1011.length co131] 35 (0, 0)) (by (with_reducible repeat (first | apply lN_ | apply lD_ | apply lA_)); refine blk_put (cs := #[.slice Ao124 t1005.length co124, .slice Ao130 t1008.length co130, .slice none 0 0]) ?_ 2 _ rfl; (with_reducible repeat (first | apply lN_ | apply lD_ | apply lA_)); refine blk_put (cs := #[.slice Ao124 t1005.length co124, .slice none 0 0, .slice none 0 0]) ?_ 1 _ rfl; (with_reducible repeat (first | apply lN_ | apply lD_ | apply lA_)); refine blk_put (cs := #[.slice none 0 0, .slice none 0 0, .slice none 0 0]) ?_ 0 _ rfl; (with_reducible repeat (first | apply lN_ | apply lD_ | apply lA_)); exact BK1015.out) hb); have n20_ := Aside0.mk (below_step (by repeat (first | (with_reducible first | exact HB.out | apply bA_ | apply bN_ | apply bD_ | refine bS_ ?_ GE932.out | refine bS_ ?_ GE953.out | refine bS_ ?_ GE963.out | refine bS_ ?_ GE974.out | refine bS_ ?_ GE1015.out) | exact HB.out)) hb); clear HO_954000; clear HO_954001; clear HO_954002; clear HO_964000; clear HO_964001; clear HO_964002; clear HO_975000; clear HO_975001; clear HO_975002; clear HO998; clear HO1001; clear HO1004; clear HO1007; clear HO1010; clear HO1013; clear BK932; clear BK953; clear BK963; clear BK974; clear BK1015; clear HB; have HO_954000 := n0_; have HO_954001 := n1_; have HO_954002 := n2_; have HO_964000 := n3_; have HO_964001 := n4_; have HO_964002 := n5_; have HO_975000 := n6_; have HO_975001 := n7_; have HO_975002 := n8_; have HO998 := n9_; have HO1001 := n10_; have HO1004 := n11_; have HO1007 := n12_; have HO1010 := n13_; have HO1013 := n14_; have BK932 := n15_; have BK953 := n16_; have BK963 := n17_; have BK974 := n18_; have BK1015 := n19_; have HB := n20_; clear n0_ n1_ n2_ n3_ n4_ n5_ n6_ n7_ n8_ n9_ n10_ n11_ n12_ n13_ n14_ n15_ n16_ n17_ n18_ n19_ n20_; (try clear hb); (try clear hb2); (try clear hk); (try clear hi)))
             go_meet
             case rel => exact ⟨_, ((t1014 != t952)), (by first | rfl | (simp; done) | (simp [*]; done)), H', ⟨by have := HJ11.out; have := HJ68.out; first | omega | exact Nat.le_refl _⟩, ⟨by (try simp only [hl964000_68]); (try simp only [hl964001_68]); (try simp only [hl964002_68]); (with_reducible repeat (first | apply rA_ | apply rN_ | apply rD_)); exact Kd.R_mono HO_954000.out (fun _ hk => ⟨hk.1.1.1, ⟨hk.1.1.2, hk.2⟩⟩)⟩, ⟨by (try simp only [hl964000_68]); (try simp only [hl964001_68]); (try simp only [hl964002_68]); (with_reducible repeat (first | apply rA_ | apply rN_ | apply rD_)); exact Kd.R_mono HO_954001.out (fun _ hk => ⟨hk.1.1.1.1.1, ⟨hk.1.1.1.1.2.1, ⟨hk.1.1.1.1.2.2.1, ⟨hk.1.1.1.1.2.2.2.1, ⟨hk.1.1.1.1.2.2.2.2, ⟨hk.1.2, hk.2⟩⟩⟩⟩⟩⟩)⟩, ⟨by (try simp only [hl964000_68]); (try simp only [hl964001_68]); (try simp only [hl964002_68]); (with_reducible repeat (first | apply rA_ | apply rN_ | apply rD_)); exact Kd.R_mono HO_954002.out (fun _ hk => ⟨hk.1.1.1.1.1, ⟨hk.1.1.1.1.2.1, ⟨hk.1.1.1.1.2.2.1, ⟨hk.1.1.1.1.2.2.2.1, ⟨hk.1.1.1.1.2.2.2.2, ⟨hk.1.2, hk.2⟩⟩⟩⟩⟩⟩)⟩, ⟨by (try simp only [hl964000_68]); (try simp only [hl964001_68]); (try simp only [hl964002_68]); (with_reducible repeat (first | apply rA_ | apply rN_ | apply rD_)); exact Kd.R_mono HO_964000.out (fun _ hk => ⟨hk.1.1.1, ⟨hk.1.1.2, hk.2⟩⟩)⟩, ⟨by (try simp only [hl964000_68]); (try simp only [hl964001_68]); (try simp only [hl964002_68]); (with_reducible repeat (first | apply rA_ | apply rN_ | apply rD_)); exact Kd.R_mono HO_964001.out (fun _ hk => ⟨hk.1.1.1.1.1, ⟨hk.1.1.1.1.2.1, ⟨hk.1.1.1.1.2.2.1, ⟨hk.1.1.1.1.2.2.2.1, ⟨hk.1.1.1.1.2.2.2.2, ⟨hk.1.2, hk.2⟩⟩⟩⟩⟩⟩)⟩, ⟨by (try simp only [hl964000_68]); (try simp only [hl964001_68]); (try simp only [hl964002_68]); (with_reducible repeat (first | apply rA_ | apply rN_ | apply rD_)); exact Kd.R_mono HO_964002.out (fun _ hk => ⟨hk.1.1.1.1.1, ⟨hk.1.1.1.1.2.1, ⟨hk.1.1.1.1.2.2.1, ⟨hk.1.1.1.1.2.2.2.1, ⟨hk.1.1.1.1.2.2.2.2, ⟨hk.1.2, hk.2⟩⟩⟩⟩⟩⟩)⟩, ⟨by (try simp only [hl964000_68]); (try simp only [hl964001_68]); (try simp only [hl964002_68]); (with_reducible repeat (first | apply rA_ | apply rN_ | apply rD_)); exact Kd.R_mono HO_975000.out (fun _ hk => ⟨hk.1.1.1, ⟨hk.1.1.2, hk.2⟩⟩)⟩, ⟨by (try simp only [hl964000_68]); (try simp only [hl964001_68]); (try simp only [hl964002_68]); (with_reducible repeat (first | apply rA_ | apply rN_ | apply rD_)); exact Kd.R_mono HO_975001.out (fun _ hk => ⟨hk.1.1.1.1.1, ⟨hk.1.1.1.1.2.1, ⟨hk.1.1.1.1.2.2.1, ⟨hk.1.1.1.1.2.2.2.1, ⟨hk.1.1.1.1.2.2.2.2, ⟨hk.1.2, hk.2⟩⟩⟩⟩⟩⟩)⟩, ⟨by (try simp only [hl964000_68]); (try simp only [hl964001_68]); (try simp only [hl964002_68]); (with_reducible repeat (first | apply rA_ | apply rN_ | apply rD_)); exact Kd.R_mono HO_975002.out (fun _ hk => ⟨hk.1.1.1.1.1, ⟨hk.1.1.1.1.2.1, ⟨hk.1.1.1.1.2.2.1, ⟨hk.1.1.1.1.2.2.2.1, ⟨hk.1.1.1.1.2.2.2.2, ⟨hk.1.2, hk.2⟩⟩⟩⟩⟩⟩)⟩, ⟨by (try simp only [hl964000_68]); (try simp only [hl964001_68]); (try simp only [hl964002_68]); (with_reducible repeat (first | apply rA_ | apply rN_ | apply rD_)); exact Kd.R_mono HO1007.out (fun _ hk => ⟨hk.1.1.1.2, ⟨hk.1.1.2, hk.1.2⟩⟩)⟩, ⟨by (try simp only [hl964000_68]); (try simp only [hl964001_68]); (try simp only [hl964002_68]); (with_reducible repeat (first | apply rA_ | apply rN_ | apply rD_)); exact Kd.R_mono HO1010.out (fun _ hk => ⟨hk.1.1.1.1.1.1.1.2, ⟨hk.1.1.1.1.1.1.2, ⟨hk.1.1.1.1.1.2, ⟨hk.1.1.1.1.2, ⟨hk.1.1.1.2, ⟨hk.1.1.2, hk.1.1.1.1.1.1.1.1⟩⟩⟩⟩⟩⟩)⟩, ⟨by (try simp only [hl964000_68]); (try simp only [hl964001_68]); (try simp only [hl964002_68]); (with_reducible repeat (first | apply rA_ | apply rN_ | apply rD_)); exact Kd.R_mono HO1013.out (fun _ hk => ⟨hk.1.1.1.1.1.1.1.2, ⟨hk.1.1.1.1.1.1.2, ⟨hk.1.1.1.1.1.2, ⟨hk.1.1.1.1.2, ⟨hk.1.1.1.2, ⟨hk.1.1.2, hk.1.1.1.1.1.1.1.1⟩⟩⟩⟩⟩⟩)⟩, ⟨by (try simp only [hl964000_68]); (try simp only [hl964001_68]); (try simp only [hl964002_68]); (with_reducible repeat (first | apply lN_ | apply lD_ | apply lA_)); exact BK932.out⟩, ⟨by (try simp only [hl964000_68]); (try simp only [hl964001_68]); (try simp only [hl964002_68]); (with_reducible repeat (first | apply lN_ | apply lD_ | apply lA_)); exact BK953.out⟩, ⟨by (try simp only [hl964000_68]); (try simp only [hl964001_68]); (try simp only [hl964002_68]); (with_reducible repeat (first | apply lN_ | apply lD_ | apply lA_)); exact BK963.out⟩, ⟨by (try simp only [hl964000_68]); (try simp only [hl964001_68]); (try simp only [hl964002_68]); (with_reducible repeat (first | apply lN_ | apply lD_ | apply lA_)); exact BK974.out⟩, ⟨by (try simp only [hl964000_68]); (try simp only [hl964001_68]); (try simp only [hl964002_68]); (with_reducible repeat (first | apply lN_ | apply lD_ | apply lA_)); exact BK1015.out⟩, ⟨by repeat (first | (with_reducible first | exact HB.out | apply bA_ | apply bN_ | apply bD_ | refine bS_ ?_ GE932.out | refine bS_ ?_ GE953.out | refine bS_ ?_ GE963.out | refine bS_ ?_ GE974.out | refine bS_ ?_ GE1015.out) | exact HB.out)⟩⟩
            ·replace c133 := Bool.eq_false_iff.mpr c133
             subst c133
             have H1 : (laws_FnExactForgetEdits.j2 kj68 t991 true t992 t993 t994) = some r := by rw [if_neg (show ¬ (false = true) by decide)] at H; exact H
             clear H
             have H := H1
             clear H1
             have H' := Aside0.mk H
             clear H
             have hnb144 := NB1015_932.out
             have hnc144 := NB932_1015.out
             have hnb145 := NB1015_953.out
             have hnc145 := NB953_1015.out
             have hnb146 := NB1015_963.out
             have hnc146 := NB963_1015.out
             have hnb147 := NB1015_974.out
             have hnc147 := NB974_1015.out
             have hcz148_0 : w123.cell? ⟨gb1015, 0, none⟩ = some (.slice none 0 0) := (blk_cell BK1015.out 0).trans rfl
             have hcz148_1 : w123.cell? ⟨gb1015, 1, none⟩ = some (.slice none 0 0) := (blk_cell BK1015.out 1).trans rfl
             have hcz148_2 : w123.cell? ⟨gb1015, 2, none⟩ = some (.slice none 0 0) := (blk_cell BK1015.out 2).trans rfl
             have hfz148_0 := blk_frozen BK1015.out 0
             have hfz148_1 := blk_frozen BK1015.out 1
             have hfz148_2 := blk_frozen BK1015.out 2
             have hnb149 := NB953_932.out
             have hnc149 := NB932_953.out
             have hnb150 := NB953_963.out
             have hnc150 := NB963_953.out
             have hnb151 := NB953_974.out
             have hnc151 := NB974_953.out
             have hcz152_0 : w123.cell? ⟨gb953, 0, none⟩ = some (.slice Ao23 t943.length co23) := (blk_cell BK953.out 0).trans rfl
             have hcz152_1 : w123.cell? ⟨gb953, 1, none⟩ = some (.slice Ao26 t946.length co26) := (blk_cell BK953.out 1).trans rfl
             have hcz152_2 : w123.cell? ⟨gb953, 2, none⟩ = some (.slice Ao27 t949.length co27) := (blk_cell BK953.out 2).trans rfl
             have hfz152_0 := blk_frozen BK953.out 0
             have hfz152_1 := blk_frozen BK953.out 1
             have hfz152_2 := blk_frozen BK953.out 2
             go_wp2_with (first | ((with_reducible refine gate_callee (f := 23) rfl ?_); refine goesL_ (some 86) rfl rfl Try.func23 (by kernel_rfl) rfl #[.agg #[.slice Ao124 t1005.length co124, .slice Ao130 t1008.length co130, .slice Ao131 t1011.length co131], .agg #[.slice Ao23 t943.length co23, .slice Ao26 t946.length co26, .slice Ao27 t949.length co27]] rfl args_ ?_; (with_reducible refine (laws_eqDesk.calls kj68 _ _ t1005 _ _ t1008 _ _ t1011 _ _ t943 _ _ t946 _ _ t949 false _ ?side1 ?side2 ?side3 ?side4 ?side5 ?side6 ?side7 ?side8 ?side9 ?side10 ?side11 ?side12 A132.out).mono ?_); (case side1 => refine (Kd.R_reads' (e := 9) (base := w.heap.size) (ok := fun k_ => ((((True ∧ some k_ ≠ (.slice Ao23 t943.length co23 : Value).ownBlock) ∧ some k_ ≠ (.slice Ao31 t987.length co31 : Value).ownBlock) ∧ some k_ ≠ (.slice Ao39 t964.length co39 : Value).ownBlock) ∧ some k_ ≠ (.slice Ao119 t996.length co119 : Value).ownBlock)) (n := t1005.length) (c := co124) ?_).2.2; exact (rf_ (fm_ (fr_ (fr_ (fr_ (ft_ HO1007 BK1015) 0 (.slice Ao124 t1005.length co124)) 1 (.slice Ao130 t1008.length co130)) 2 (.slice Ao131 t1011.length co131))))); (case side2 => exact (Kd.R_reads' HO1007.out).2.1); (case side3 => refine (Kd.R_reads' (e := 25) (base := w.heap.size) (ok := fun k_ => ((((((((some k_ ≠ (.slice Ao131 t1011.length co131 : Value).ownBlock ∧ some k_ ≠ (.slice Ao26 t946.length co26 : Value).ownBlock) ∧ some k_ ≠ (.slice Ao27 t949.length co27 : Value).ownBlock) ∧ some k_ ≠ (.slice Ao35 t988.length co35 : Value).ownBlock) ∧ some k_ ≠ (.slice Ao36 t989.length co36 : Value).ownBlock) ∧ some k_ ≠ (.slice Ao44 t967.length co44 : Value).ownBlock) ∧ some k_ ≠ (.slice Ao45 t970.length co45 : Value).ownBlock) ∧ some k_ ≠ (.slice Ao120 t999.length co120 : Value).ownBlock) ∧ some k_ ≠ (.slice Ao121 t1002.length co121 : Value).ownBlock)) (n := t1008.length) (c := co130) ?_).2.2; exact (rf_ (fm_ (fr_ (fr_ (fr_ (ft_ HO1010 BK1015) 0 (.slice Ao124 t1005.length co124)) 1 (.slice Ao130 t1008.length co130)) 2 (.slice Ao131 t1011.length co131))))); (case side4 => exact (Kd.R_reads' HO1010.out).2.1); (case side5 => refine (Kd.R_reads' (e := 25) (base := w.heap.size) (ok := fun k_ => ((((((((some k_ ≠ (.slice Ao130 t1008.length co130 : Value).ownBlock ∧ some k_ ≠ (.slice Ao26 t946.length co26 : Value).ownBlock) ∧ some k_ ≠ (.slice Ao27 t949.length co27 : Value).ownBlock) ∧ some k_ ≠ (.slice Ao35 t988.length co35 : Value).ownBlock) ∧ some k_ ≠ (.slice Ao36 t989.length co36 : Value).ownBlock) ∧ some k_ ≠ (.slice Ao44 t967.length co44 : Value).ownBlock) ∧ some k_ ≠ (.slice Ao45 t970.length co45 : Value).ownBlock) ∧ some k_ ≠ (.slice Ao120 t999.length co120 : Value).ownBlock) ∧ some k_ ≠ (.slice Ao121 t1002.length co121 : Value).ownBlock)) (n := t1011.length) (c := co131) ?_).2.2; exact (rf_ (fm_ (fr_ (fr_ (fr_ (ft_ HO1013 BK1015) 0 (.slice Ao124 t1005.length co124)) 1 (.slice Ao130 t1008.length co130)) 2 (.slice Ao131 t1011.length co131))))); (case side6 => exact (Kd.R_reads' HO1013.out).2.1); (case side7 => refine (Kd.R_reads' (e := 9) (base := w.heap.size) (ok := fun k_ => (((some k_ ≠ (.slice Ao31 t987.length co31 : Value).ownBlock ∧ some k_ ≠ (.slice Ao39 t964.length co39 : Value).ownBlock) ∧ some k_ ≠ (.slice Ao119 t996.length co119 : Value).ownBlock) ∧ some k_ ≠ (.slice Ao124 t1005.length co124 : Value).ownBlock)) (n := t943.length) (c := co23) ?_).2.2; exact (rf_ (fm_ (fr_ (fr_ (fr_ (ft_ HO_954000 BK1015) 0 (.slice Ao124 t1005.length co124)) 1 (.slice Ao130 t1008.length co130)) 2 (.slice Ao131 t1011.length co131))))); (case side8 => exact (Kd.R_reads' HO_954000.out).2.1); (case side9 => refine (Kd.R_reads' (e := 25) (base := w.heap.size) (ok := fun k_ => (((((some k_ ≠ (.slice Ao27 t949.length co27 : Value).ownBlock ∧ (some k_ ≠ (.slice Ao35 t988.length co35 : Value).ownBlock ∧ (some k_ ≠ (.slice Ao36 t989.length co36 : Value).ownBlock ∧ (some k_ ≠ (.slice Ao44 t967.length co44 : Value).ownBlock ∧ some k_ ≠ (.slice Ao45 t970.length co45 : Value).ownBlock)))) ∧ some k_ ≠ (.slice Ao120 t999.length co120 : Value).ownBlock) ∧ some k_ ≠ (.slice Ao121 t1002.length co121 : Value).ownBlock) ∧ some k_ ≠ (.slice Ao130 t1008.length co130 : Value).ownBlock) ∧ some k_ ≠ (.slice Ao131 t1011.length co131 : Value).ownBlock)) (n := t946.length) (c := co26) ?_).2.2; exact (rf_ (fm_ (fr_ (fr_ (fr_ (ft_ HO_954001 BK1015) 0 (.slice Ao124 t1005.length co124)) 1 (.slice Ao130 t1008.length co130)) 2 (.slice Ao131 t1011.length co131))))); (case side10 => exact (Kd.R_reads' HO_954001.out).2.1); (case side11 => refine (Kd.R_reads' (e := 25) (base := w.heap.size) (ok := fun k_ => (((((some k_ ≠ (.slice Ao26 t946.length co26 : Value).ownBlock ∧ (some k_ ≠ (.slice Ao35 t988.length co35 : Value).ownBlock ∧ (some k_ ≠ (.slice Ao36 t989.length co36 : Value).ownBlock ∧ (some k_ ≠ (.slice Ao44 t967.length co44 : Value).ownBlock ∧ some k_ ≠ (.slice Ao45 t970.length co45 : Value).ownBlock)))) ∧ some k_ ≠ (.slice Ao120 t999.length co120 : Value).ownBlock) ∧ some k_ ≠ (.slice Ao121 t1002.length co121 : Value).ownBlock) ∧ some k_ ≠ (.slice Ao130 t1008.length co130 : Value).ownBlock) ∧ some k_ ≠ (.slice Ao131 t1011.length co131 : Value).ownBlock)) (n := t949.length) (c := co27) ?_).2.2; exact (rf_ (fm_ (fr_ (fr_ (fr_ (ft_ HO_954002 BK1015) 0 (.slice Ao124 t1005.length co124)) 1 (.slice Ao130 t1008.length co130)) 2 (.slice Ao131 t1011.length co131))))); (case side12 => exact (Kd.R_reads' HO_954002.out).2.1); rintro e w153 ⟨rfl, hb⟩; refine ⟨_, rfl, ?_⟩; have n0_ := Aside0.mk (Kd.R_below (rf_ (fm_ (fr_ (fr_ (fr_ (ft_ HO_954000 BK1015) 0 (.slice Ao124 t1005.length co124)) 1 (.slice Ao130 t1008.length co130)) 2 (.slice Ao131 t1011.length co131)))) hb); have n1_ := Aside0.mk (Kd.R_below (rf_ (fm_ (fr_ (fr_ (fr_ (ft_ HO_954001 BK1015) 0 (.slice Ao124 t1005.length co124)) 1 (.slice Ao130 t1008.length co130)) 2 (.slice Ao131 t1011.length co131)))) hb); have n2_ := Aside0.mk (Kd.R_below (rf_ (fm_ (fr_ (fr_ (fr_ (ft_ HO_954002 BK1015) 0 (.slice Ao124 t1005.length co124)) 1 (.slice Ao130 t1008.length co130)) 2 (.slice Ao131 t1011.length co131)))) hb); have n3_ := Aside0.mk (Kd.R_below (rf_ (fm_ (fr_ (fr_ (fr_ (ft_ HO_964000 BK1015) 0 (.slice Ao124 t1005.length co124)) 1 (.slice Ao130 t1008.length co130)) 2 (.slice Ao131 t1011.length co131)))) hb); have n4_ := Aside0.mk (Kd.R_below (rf_ (fm_ (fr_ (fr_ (fr_ (ft_ HO_964001 BK1015) 0 (.slice Ao124 t1005.length co124)) 1 (.slice Ao130 t1008.length co130)) 2 (.slice Ao131 t1011.length co131)))) hb); have n5_ := Aside0.mk (Kd.R_below (rf_ (fm_ (fr_ (fr_ (fr_ (ft_ HO_964002 BK1015) 0 (.slice Ao124 t1005.length co124)) 1 (.slice Ao130 t1008.length co130)) 2 (.slice Ao131 t1011.length co131)))) hb); have n6_ := Aside0.mk (Kd.R_below (rf_ (fm_ (fr_ (fr_ (fr_ (ft_ HO_975000 BK1015) 0 (.slice Ao124 t1005.length co124)) 1 (.slice Ao130 t1008.length co130)) 2 (.slice Ao131 t1011.length co131)))) hb); have n7_ := Aside0.mk (Kd.R_below (rf_ (fm_ (fr_ (fr_ (fr_ (ft_ HO_975001 BK1015) 0 (.slice Ao124 t1005.length co124)) 1 (.slice Ao130 t1008.length co130)) 2 (.slice Ao131 t1011.length co131)))) hb); have n8_ := Aside0.mk (Kd.R_below (rf_ (fm_ (fr_ (fr_ (fr_ (ft_ HO_975002 BK1015) 0 (.slice Ao124 t1005.length co124)) 1 (.slice Ao130 t1008.length co130)) 2 (.slice Ao131 t1011.length co131)))) hb); have n9_ := Aside0.mk (Kd.R_below (rf_ (fm_ (fr_ (fr_ (fr_ (ft_ HO998 BK1015) 0 (.slice Ao124 t1005.length co124)) 1 (.slice Ao130 t1008.length co130)) 2 (.slice Ao131 t1011.length co131)))) hb); have n10_ := Aside0.mk (Kd.R_below (rf_ (fm_ (fr_ (fr_ (fr_ (ft_ HO1001 BK1015) 0 (.slice Ao124 t1005.length co124)) 1 (.slice Ao130 t1008.length co130)) 2 (.slice Ao131 t1011.length co131)))) hb); have n11_ := Aside0.mk (Kd.R_below (rf_ (fm_ (fr_ (fr_ (fr_ (ft_ HO1004 BK1015) 0 (.slice Ao124 t1005.length co124)) 1 (.slice Ao130 t1008.length co130)) 2 (.slice Ao131 t1011.length co131)))) hb); have n12_ := Aside0.mk (Kd.R_below (rf_ (fm_ (fr_ (fr_ (fr_ (ft_ HO1007 BK1015) 0 (.slice Ao124 t1005.length co124)) 1 (.slice Ao130 t1008.length co130)) 2 (.slice Ao131 t1011.length co131)))) hb); have n13_ := Aside0.mk (Kd.R_below (rf_ (fm_ (fr_ (fr_ (fr_ (ft_ HO1010 BK1015) 0 (.slice Ao124 t1005.length co124)) 1 (.slice Ao130 t1008.length co130)) 2 (.slice Ao131 t1011.length co131)))) hb); have n14_ := Aside0.mk (Kd.R_below (rf_ (fm_ (fr_ (fr_ (fr_ (ft_ HO1013 BK1015) 0 (.slice Ao124 t1005.length co124)) 1 (.slice Ao130 t1008.length co130)) 2 (.slice Ao131 t1011.length co131)))) hb); have n15_ := Aside0.mk (blk_below (g := gb932) (o := .cells #[.slice A0_0 l0_0.length c0_0, .slice A0_1 l0_1.length c0_1, .slice A0_2 l0_2.length c0_2] 45 (0, 0)) (by (with_reducible repeat (first | apply lN_ | apply lD_ | apply lA_)); refine blk_far ?_ NB932_1015.out _; (with_reducible repeat (first | apply lN_ | apply lD_ | apply lA_)); refine blk_far ?_ NB932_1015.out _; (with_reducible repeat (first | apply lN_ | apply lD_ | apply lA_)); refine blk_far ?_ NB932_1015.out _; (with_reducible repeat (first | apply lN_ | apply lD_ | apply lA_)); exact BK932.out) hb); have n16_ := Aside0.mk (blk_below (g := gb953) (o := .cells #[.slice Ao23 t943.length co23, .slice Ao26 t946.length co26, .slice Ao27 t949.length co27] 35 (0, 0)) (by (with_reducible repeat (first | apply lN_ | apply lD_ | apply lA_)); refine blk_far ?_ NB953_1015.out _; (with_reducible repeat (first | apply lN_ | apply lD_ | apply lA_)); refine blk_far ?_ NB953_1015.out _; (with_reducible repeat (first | apply lN_ | apply lD_ | apply lA_)); refine blk_far ?_ NB953_1015.out _; (with_reducible repeat (first | apply lN_ | apply lD_ | apply lA_)); exact BK953.out) hb); have n17_ := Aside0.mk (blk_below (g := gb963) (o := .cells #[.slice Ao31 t987.length co31, .slice Ao35 t988.length co35, .slice Ao36 t989.length co36] 35 (0, 0)) (by (with_reducible repeat (first | apply lN_ | apply lD_ | apply lA_)); refine blk_far ?_ NB963_1015.out _; (with_reducible repeat (first | apply lN_ | apply lD_ | apply lA_)); refine blk_far ?_ NB963_1015.out _; (with_reducible repeat (first | apply lN_ | apply lD_ | apply lA_)); refine blk_far ?_ NB963_1015.out _; (with_reducible repeat (first | apply lN_ | apply lD_ | apply lA_)); exact BK963.out) hb); have n18_ := Aside0.mk (blk_below (g := gb974) (o := .cells #[.slice Ao39 t964.length co39, .slice Ao44 t967.length co44, .slice Ao45 t970.length co45] 35 (0, 0)) (by (with_reducible repeat (first | apply lN_ | apply lD_ | apply lA_)); refine blk_far ?_ NB974_1015.out _; (with_reducible repeat (first | apply lN_ | apply lD_ | apply lA_)); refine blk_far ?_ NB974_1015.out _; (with_reducible repeat (first | apply lN_ | apply lD_ | apply lA_)); refine blk_far ?_ NB974_1015.out _; (with_reducible repeat (first | apply lN_ | apply lD_ | apply lA_)); exact BK974.out) hb); have n19_ := Aside0.mk (blk_below (g := gb1015) (o := .cells #[.slice Ao124 t1005.length co124, .slice Ao130 t1008.length co130, .slice Ao131 t1011.length co131] 35 (0, 0)) (by (with_reducible repeat (first | apply lN_ | apply lD_ | apply lA_)); refine blk_put (cs := #[.slice Ao124 t1005.length co124, .slice Ao130 t1008.length co130, .slice none 0 0]) ?_ 2 _ rfl; (with_reducible repeat (first | apply lN_ | apply lD_ | apply lA_)); refine blk_put (cs := #[.slice Ao124 t1005.length co124, .slice none 0 0, .slice none 0 0]) ?_ 1 _ rfl; (with_reducible repeat (first | apply lN_ | apply lD_ | apply lA_)); refine blk_put (cs := #[.slice none 0 0, .slice none 0 0, .slice none 0 0]) ?_ 0 _ rfl; (with_reducible repeat (first | apply lN_ | apply lD_ | apply lA_)); exact BK1015.out) hb); have n20_ := Aside0.mk (below_step (by repeat (first | (with_reducible first | exact HB.out | apply bA_ | apply bN_ | apply bD_ | refine bS_ ?_ GE932.out | refine bS_ ?_ GE953.out | refine bS_ ?_ GE963.out | refine bS_ ?_ GE974.out | refine bS_ ?_ GE1015.out) | exact HB.out)) hb); clear HO_954000; clear HO_954001; clear HO_954002; clear HO_964000; clear HO_964001; clear HO_964002; clear HO_975000; clear HO_975001; clear HO_975002; clear HO998; clear HO1001; clear HO1004; clear HO1007; clear HO1010; clear HO1013; clear BK932; clear BK953; clear BK963; clear BK974; clear BK1015; clear HB; have HO_954000 := n0_; have HO_954001 := n1_; have HO_954002 := n2_; have HO_964000 := n3_; have HO_964001 := n4_; have HO_964002 := n5_; have HO_975000 := n6_; have HO_975001 := n7_; have HO_975002 := n8_; have HO998 := n9_; have HO1001 := n10_; have HO1004 := n11_; have HO1007 := n12_; have HO1010 := n13_; have HO1013 := n14_; have BK932 := n15_; have BK953 := n16_; have BK963 := n17_; have BK974 := n18_; have BK1015 := n19_; have HB := n20_; clear n0_ n1_ n2_ n3_ n4_ n5_ n6_ n7_ n8_ n9_ n10_ n11_ n12_ n13_ n14_ n15_ n16_ n17_ n18_ n19_ n20_; (try clear hb); (try clear hb2); (try clear hk); (try clear hi)))
             go_meet
             case rel => exact ⟨_, (true), (by first | rfl | (simp; done) | (simp [*]; done)), H', ⟨by have := HJ11.out; have := HJ68.out; first | omega | exact Nat.le_refl _⟩, ⟨by (try simp only [hl964000_68]); (try simp only [hl964001_68]); (try simp only [hl964002_68]); (with_reducible repeat (first | apply rA_ | apply rN_ | apply rD_)); exact Kd.R_mono HO_954000.out (fun _ hk => ⟨hk.1.1.1, ⟨hk.1.1.2, hk.2⟩⟩)⟩, ⟨by (try simp only [hl964000_68]); (try simp only [hl964001_68]); (try simp only [hl964002_68]); (with_reducible repeat (first | apply rA_ | apply rN_ | apply rD_)); exact Kd.R_mono HO_954001.out (fun _ hk => ⟨hk.1.1.1.1.1, ⟨hk.1.1.1.1.2.1, ⟨hk.1.1.1.1.2.2.1, ⟨hk.1.1.1.1.2.2.2.1, ⟨hk.1.1.1.1.2.2.2.2, ⟨hk.1.2, hk.2⟩⟩⟩⟩⟩⟩)⟩, ⟨by (try simp only [hl964000_68]); (try simp only [hl964001_68]); (try simp only [hl964002_68]); (with_reducible repeat (first | apply rA_ | apply rN_ | apply rD_)); exact Kd.R_mono HO_954002.out (fun _ hk => ⟨hk.1.1.1.1.1, ⟨hk.1.1.1.1.2.1, ⟨hk.1.1.1.1.2.2.1, ⟨hk.1.1.1.1.2.2.2.1, ⟨hk.1.1.1.1.2.2.2.2, ⟨hk.1.2, hk.2⟩⟩⟩⟩⟩⟩)⟩, ⟨by (try simp only [hl964000_68]); (try simp only [hl964001_68]); (try simp only [hl964002_68]); (with_reducible repeat (first | apply rA_ | apply rN_ | apply rD_)); exact Kd.R_mono HO_964000.out (fun _ hk => ⟨hk.1.1.1, ⟨hk.1.1.2, hk.2⟩⟩)⟩, ⟨by (try simp only [hl964000_68]); (try simp only [hl964001_68]); (try simp only [hl964002_68]); (with_reducible repeat (first | apply rA_ | apply rN_ | apply rD_)); exact Kd.R_mono HO_964001.out (fun _ hk => ⟨hk.1.1.1.1.1, ⟨hk.1.1.1.1.2.1, ⟨hk.1.1.1.1.2.2.1, ⟨hk.1.1.1.1.2.2.2.1, ⟨hk.1.1.1.1.2.2.2.2, ⟨hk.1.2, hk.2⟩⟩⟩⟩⟩⟩)⟩, ⟨by (try simp only [hl964000_68]); (try simp only [hl964001_68]); (try simp only [hl964002_68]); (with_reducible repeat (first | apply rA_ | apply rN_ | apply rD_)); exact Kd.R_mono HO_964002.out (fun _ hk => ⟨hk.1.1.1.1.1, ⟨hk.1.1.1.1.2.1, ⟨hk.1.1.1.1.2.2.1, ⟨hk.1.1.1.1.2.2.2.1, ⟨hk.1.1.1.1.2.2.2.2, ⟨hk.1.2, hk.2⟩⟩⟩⟩⟩⟩)⟩, ⟨by (try simp only [hl964000_68]); (try simp only [hl964001_68]); (try simp only [hl964002_68]); (with_reducible repeat (first | apply rA_ | apply rN_ | apply rD_)); exact Kd.R_mono HO_975000.out (fun _ hk => ⟨hk.1.1.1, ⟨hk.1.1.2, hk.2⟩⟩)⟩, ⟨by (try simp only [hl964000_68]); (try simp only [hl964001_68]); (try simp only [hl964002_68]); (with_reducible repeat (first | apply rA_ | apply rN_ | apply rD_)); exact Kd.R_mono HO_975001.out (fun _ hk => ⟨hk.1.1.1.1.1, ⟨hk.1.1.1.1.2.1, ⟨hk.1.1.1.1.2.2.1, ⟨hk.1.1.1.1.2.2.2.1, ⟨hk.1.1.1.1.2.2.2.2, ⟨hk.1.2, hk.2⟩⟩⟩⟩⟩⟩)⟩, ⟨by (try simp only [hl964000_68]); (try simp only [hl964001_68]); (try simp only [hl964002_68]); (with_reducible repeat (first | apply rA_ | apply rN_ | apply rD_)); exact Kd.R_mono HO_975002.out (fun _ hk => ⟨hk.1.1.1.1.1, ⟨hk.1.1.1.1.2.1, ⟨hk.1.1.1.1.2.2.1, ⟨hk.1.1.1.1.2.2.2.1, ⟨hk.1.1.1.1.2.2.2.2, ⟨hk.1.2, hk.2⟩⟩⟩⟩⟩⟩)⟩, ⟨by (try simp only [hl964000_68]); (try simp only [hl964001_68]); (try simp only [hl964002_68]); (with_reducible repeat (first | apply rA_ | apply rN_ | apply rD_)); exact Kd.R_mono HO1007.out (fun _ hk => ⟨hk.1.1.1.2, ⟨hk.1.1.2, hk.1.2⟩⟩)⟩, ⟨by (try simp only [hl964000_68]); (try simp only [hl964001_68]); (try simp only [hl964002_68]); (with_reducible repeat (first | apply rA_ | apply rN_ | apply rD_)); exact Kd.R_mono HO1010.out (fun _ hk => ⟨hk.1.1.1.1.1.1.1.2, ⟨hk.1.1.1.1.1.1.2, ⟨hk.1.1.1.1.1.2, ⟨hk.1.1.1.1.2, ⟨hk.1.1.1.2, ⟨hk.1.1.2, hk.1.1.1.1.1.1.1.1⟩⟩⟩⟩⟩⟩)⟩, ⟨by (try simp only [hl964000_68]); (try simp only [hl964001_68]); (try simp only [hl964002_68]); (with_reducible repeat (first | apply rA_ | apply rN_ | apply rD_)); exact Kd.R_mono HO1013.out (fun _ hk => ⟨hk.1.1.1.1.1.1.1.2, ⟨hk.1.1.1.1.1.1.2, ⟨hk.1.1.1.1.1.2, ⟨hk.1.1.1.1.2, ⟨hk.1.1.1.2, ⟨hk.1.1.2, hk.1.1.1.1.1.1.1.1⟩⟩⟩⟩⟩⟩)⟩, ⟨by (try simp only [hl964000_68]); (try simp only [hl964001_68]); (try simp only [hl964002_68]); (with_reducible repeat (first | apply lN_ | apply lD_ | apply lA_)); exact BK932.out⟩, ⟨by (try simp only [hl964000_68]); (try simp only [hl964001_68]); (try simp only [hl964002_68]); (with_reducible repeat (first | apply lN_ | apply lD_ | apply lA_)); exact BK953.out⟩, ⟨by (try simp only [hl964000_68]); (try simp only [hl964001_68]); (try simp only [hl964002_68]); (with_reducible repeat (first | apply lN_ | apply lD_ | apply lA_)); exact BK963.out⟩, ⟨by (try simp only [hl964000_68]); (try simp only [hl964001_68]); (try simp only [hl964002_68]); (with_reducible repeat (first | apply lN_ | apply lD_ | apply lA_)); exact BK974.out⟩, ⟨by (try simp only [hl964000_68]); (try simp only [hl964001_68]); (try simp only [hl964002_68]); (with_reducible repeat (first | apply lN_ | apply lD_ | apply lA_)); exact BK1015.out⟩, ⟨by repeat (first | (with_reducible first | exact HB.out | apply bA_ | apply bN_ | apply bD_ | refine bS_ ?_ GE932.out | refine bS_ ?_ GE953.out | refine bS_ ?_ GE963.out | refine bS_ ?_ GE974.out | refine bS_ ?_ GE1015.out) | exact HB.out)⟩⟩
           case rest =>
            clear HC107
            try clear c1
            try clear c2
            try clear p2
            try clear c3
            try clear c4
            try clear c4b0
            try clear c5
            try clear c6
            try clear c7
            try clear c8
            try clear c9
            try clear c10
            try clear c11
            try clear c12
            try clear c13
            try clear c14
            try clear c15
            try clear c23
            try clear c24
            try clear c26
            try clear c27
            try clear c28
            try clear c30
            try clear c32
            try clear c33
            try clear c40
            try clear c41
            try clear c42
            try clear c47
            try clear c48
            try clear c49
            try clear c50
            try clear c52
            try clear c53
            try clear c56
            try clear c57
            try clear c58
            try clear c60
            try clear c61
            try clear c64
            try clear c67
            try clear c76
            try clear c77
            try clear c78
            try clear c81
            try clear c81b0
            try clear c83
            try clear c84
            try clear c85
            try clear c86
            try clear c88
            try clear c89
            try clear c92
            try clear c93
            try clear c94
            try clear c96
            try clear c97
            try clear c100
            try clear c103
            try clear c103b0
            try clear c104
            try clear c104b0
            try clear c104b1
            try clear c108
            try clear c109
            try clear c110
            try clear c115
            try clear c116
            try clear c125
            try clear c126
            try clear c127
            try clear c128
            try clear c133
            try clear c134
            try clear c135
            try clear c136
            try clear c137
            try clear c139
            try clear c140
            try clear c141
            try clear c144
            try clear c145
            try clear c146
            try clear c147
            try clear c149
            try clear c150
            try clear c151
            try clear hcz111_0
            try clear hcz111_1
            try clear hcz111_2
            try clear hcz113_0
            try clear hcz113_1
            try clear hcz113_2
            try clear hcz117_0
            try clear hcz117_1
            try clear hcz117_2
            try clear hcz129_0
            try clear hcz129_1
            try clear hcz129_2
            try clear hcz138_0
            try clear hcz138_1
            try clear hcz138_2
            try clear hcz142_0
            try clear hcz142_1
            try clear hcz142_2
            try clear hcz148_0
            try clear hcz148_1
            try clear hcz148_2
            try clear hcz14_0
            try clear hcz14_1
            try clear hcz14_2
            try clear hcz152_0
            try clear hcz152_1
            try clear hcz152_2
            try clear hcz16_0
            try clear hcz16_1
            try clear hcz16_2
            try clear hcz25_0
            try clear hcz25_1
            try clear hcz25_2
            try clear hcz28_0
            try clear hcz28_1
            try clear hcz28_2
            try clear hcz34_0
            try clear hcz34_1
            try clear hcz34_2
            try clear hcz43_0
            try clear hcz43_1
            try clear hcz43_2
            try clear hcz51_0
            try clear hcz51_1
            try clear hcz51_2
            try clear hcz54_0
            try clear hcz54_1
            try clear hcz54_2
            try clear hcz59_0
            try clear hcz59_1
            try clear hcz59_2
            try clear hcz62_0
            try clear hcz62_1
            try clear hcz62_2
            try clear hcz6_0
            try clear hcz6_1
            try clear hcz6_2
            try clear hcz79_0
            try clear hcz79_1
            try clear hcz79_2
            try clear hcz87_0
            try clear hcz87_1
            try clear hcz87_2
            try clear hcz90_0
            try clear hcz90_1
            try clear hcz90_2
            try clear hcz95_0
            try clear hcz95_1
            try clear hcz95_2
            try clear hcz98_0
            try clear hcz98_1
            try clear hcz98_2
            try clear hfz111_0
            try clear hfz111_1
            try clear hfz111_2
            try clear hfz113_0
            try clear hfz113_1
            try clear hfz113_2
            try clear hfz117_0
            try clear hfz117_1
            try clear hfz117_2
            try clear hfz129_0
            try clear hfz129_1
            try clear hfz129_2
            try clear hfz138_0
            try clear hfz138_1
            try clear hfz138_2
            try clear hfz142_0
            try clear hfz142_1
            try clear hfz142_2
            try clear hfz148_0
            try clear hfz148_1
            try clear hfz148_2
            try clear hfz14_0
            try clear hfz14_1
            try clear hfz14_2
            try clear hfz152_0
            try clear hfz152_1
            try clear hfz152_2
            try clear hfz16_0
            try clear hfz16_1
            try clear hfz16_2
            try clear hfz25_0
            try clear hfz25_1
            try clear hfz25_2
            try clear hfz28_0
            try clear hfz28_1
            try clear hfz28_2
            try clear hfz34_0
            try clear hfz34_1
            try clear hfz34_2
            try clear hfz43_0
            try clear hfz43_1
            try clear hfz43_2
            try clear hfz51_0
            try clear hfz51_1
            try clear hfz51_2
            try clear hfz54_0
            try clear hfz54_1
            try clear hfz54_2
            try clear hfz59_0
            try clear hfz59_1
            try clear hfz59_2
            try clear hfz62_0
            try clear hfz62_1
            try clear hfz62_2
            try clear hfz6_0
            try clear hfz6_1
            try clear hfz6_2
            try clear hfz79_0
            try clear hfz79_1
            try clear hfz79_2
            try clear hfz87_0
            try clear hfz87_1
            try clear hfz87_2
            try clear hfz90_0
            try clear hfz90_1
            try clear hfz90_2
            try clear hfz95_0
            try clear hfz95_1
            try clear hfz95_2
            try clear hfz98_0
            try clear hfz98_1
            try clear hfz98_2
            try clear p2
            obtain ⟨kq, x92_106, rfl, HA, HJ106, HO_954000, HO_954001, HO_954002, HO_964000, HO_964001, HO_964002, HO_975000, HO_975001, HO_975002, HO_1016000, HO_1016001, HO_1016002, BK932, BK953, BK963, BK974, BK1015, HB⟩ := hcut
            have hl975000_106 := (Kd.R_reads' HO_975000.out).1
            rw [hl975000_106] at HO_975000
            (try simp only [hl975000_106])
            (try simp only [hl975000_106] at BK932)
            (try simp only [hl975000_106] at BK953)
            (try simp only [hl975000_106] at BK963)
            (try simp only [hl975000_106] at BK974)
            (try simp only [hl975000_106] at BK1015)
            (try simp only [hl975000_106] at HO_954000)
            (try simp only [hl975000_106] at HO_954001)
            (try simp only [hl975000_106] at HO_954002)
            (try simp only [hl975000_106] at HO_964000)
            (try simp only [hl975000_106] at HO_964001)
            (try simp only [hl975000_106] at HO_964002)
            (try simp only [hl975000_106] at HO_975001)
            (try simp only [hl975000_106] at HO_975002)
            (try simp only [hl975000_106] at HO_1016000)
            (try simp only [hl975000_106] at HO_1016001)
            (try simp only [hl975000_106] at HO_1016002)
            have hl975001_106 := (Kd.R_reads' HO_975001.out).1
            rw [hl975001_106] at HO_975001
            (try simp only [hl975001_106])
            (try simp only [hl975001_106] at BK932)
            (try simp only [hl975001_106] at BK953)
            (try simp only [hl975001_106] at BK963)
            (try simp only [hl975001_106] at BK974)
            (try simp only [hl975001_106] at BK1015)
            (try simp only [hl975001_106] at HO_954000)
            (try simp only [hl975001_106] at HO_954001)
            (try simp only [hl975001_106] at HO_954002)
            (try simp only [hl975001_106] at HO_964000)
            (try simp only [hl975001_106] at HO_964001)
            (try simp only [hl975001_106] at HO_964002)
            (try simp only [hl975001_106] at HO_975000)
            (try simp only [hl975001_106] at HO_975002)
            (try simp only [hl975001_106] at HO_1016000)
            (try simp only [hl975001_106] at HO_1016001)
            (try simp only [hl975001_106] at HO_1016002)
            have hl975002_106 := (Kd.R_reads' HO_975002.out).1
            rw [hl975002_106] at HO_975002
            (try simp only [hl975002_106])
            (try simp only [hl975002_106] at BK932)
            (try simp only [hl975002_106] at BK953)
            (try simp only [hl975002_106] at BK963)
            (try simp only [hl975002_106] at BK974)
            (try simp only [hl975002_106] at BK1015)
            (try simp only [hl975002_106] at HO_954000)
            (try simp only [hl975002_106] at HO_954001)
            (try simp only [hl975002_106] at HO_954002)
            (try simp only [hl975002_106] at HO_964000)
            (try simp only [hl975002_106] at HO_964001)
            (try simp only [hl975002_106] at HO_964002)
            (try simp only [hl975002_106] at HO_975000)
            (try simp only [hl975002_106] at HO_975001)
            (try simp only [hl975002_106] at HO_1016000)
            (try simp only [hl975002_106] at HO_1016001)
            (try simp only [hl975002_106] at HO_1016002)
            cases kq with
            | zero => exact absurd HA.out (by simp [laws_FnExactForgetEdits.j2])
            | succ kj106 =>
             have H := HA.out
             clear HA
             simp only [laws_FnExactForgetEdits.j2] at H
             by_cases c154 : x92_106 = true
             ·subst c154
              have H1 : (none) = some r := by rw [if_pos rfl] at H; exact H
              clear H
              have H := H1
              clear H1
              exact absurd H (by simp)
             ·replace c154 := Bool.eq_false_iff.mpr c154
              subst c154
              have H1 : ((laws_heldDesk.f kj106 t992 t993 t994 1).bind fun t1017 => (if t1017 < 0 then (none) else (if t1017 = t991 then (some true) else (none)))) = some r := by rw [if_neg (show ¬ (false = true) by decide)] at H; exact H
              clear H
              have H := H1
              clear H1
              replace H := Option.bind_eq_some_iff.mp H
              obtain ⟨t1017, A1550, H⟩ := H
              try dsimp only at H
              have A155 := Aside0.mk A1550
              clear A1550
              by_cases c156 : t1017 < 0
              ·rw [if_pos c156] at H
               exact absurd H (by simp)
              ·rw [if_neg c156] at H
               have c156b0 : decide (t1017 < 0) = false := decide_eq_false c156
               clear c156
               by_cases c157 : t1017 = t991
               ·rw [if_pos c157] at H
                have c157b0 : (t1017 == t991) = true := beq_iff_eq.mpr c157
                have c157b1 : (t1017 != t991) = false := bne_eq_false_iff_eq.mpr c157
                clear c157
                obtain rfl := Option.some.inj H
                have hnb158 := NB974_932.out
                have hnc158 := NB932_974.out
                have hnb159 := NB974_953.out
                have hnc159 := NB953_974.out
                have hnb160 := NB974_963.out
                have hnc160 := NB963_974.out
                have hnb161 := NB974_1015.out
                have hnc161 := NB1015_974.out
                have hcz162_0 : wc.cell? ⟨gb974, 0, none⟩ = some (.slice Ao39 t992.length co39) := (blk_cell BK974.out 0).trans rfl
                have hcz162_1 : wc.cell? ⟨gb974, 1, none⟩ = some (.slice Ao44 t993.length co44) := (blk_cell BK974.out 1).trans rfl
                have hcz162_2 : wc.cell? ⟨gb974, 2, none⟩ = some (.slice Ao45 t994.length co45) := (blk_cell BK974.out 2).trans rfl
                have hfz162_0 := blk_frozen BK974.out 0
                have hfz162_1 := blk_frozen BK974.out 1
                have hfz162_2 := blk_frozen BK974.out 2
                go_wp2_with (first | ((with_reducible refine gate_callee (f := 27) rfl ?_); refine goesL_ (some 95) rfl rfl Try.func27 (by kernel_rfl) rfl #[.agg #[.slice Ao39 t992.length co39, .slice Ao44 t993.length co44, .slice Ao45 t994.length co45], .int .i64 1] rfl args_ ?_; (with_reducible refine (laws_heldDesk.calls kj106 _ _ t992 _ _ t993 _ _ t994 1 t1017 _ ?side1 ?side2 ?side3 ?side4 ?side5 ?side6 A155.out).mono ?_); (case side1 => repeat (first | exact (Kd.R_reads' HO_975000.out).2.2 | (with_reducible first | apply cA_ | apply cN_ | apply cD_))); (case side2 => exact (Kd.R_reads' HO_975000.out).2.1); (case side3 => repeat (first | exact (Kd.R_reads' HO_975001.out).2.2 | (with_reducible first | apply cA_ | apply cN_ | apply cD_))); (case side4 => exact (Kd.R_reads' HO_975001.out).2.1); (case side5 => repeat (first | exact (Kd.R_reads' HO_975002.out).2.2 | (with_reducible first | apply cA_ | apply cN_ | apply cD_))); (case side6 => exact (Kd.R_reads' HO_975002.out).2.1); rintro e w163 ⟨rfl, hb⟩; refine ⟨_, rfl, ?_⟩; have n0_ := Aside0.mk (Kd.R_below (ra_ HO_954000) hb); have n1_ := Aside0.mk (Kd.R_below (ra_ HO_954001) hb); have n2_ := Aside0.mk (Kd.R_below (ra_ HO_954002) hb); have n3_ := Aside0.mk (Kd.R_below (ra_ HO_964000) hb); have n4_ := Aside0.mk (Kd.R_below (ra_ HO_964001) hb); have n5_ := Aside0.mk (Kd.R_below (ra_ HO_964002) hb); have n6_ := Aside0.mk (Kd.R_below (ra_ HO_975000) hb); have n7_ := Aside0.mk (Kd.R_below (ra_ HO_975001) hb); have n8_ := Aside0.mk (Kd.R_below (ra_ HO_975002) hb); have n9_ := Aside0.mk (Kd.R_below (ra_ HO_1016000) hb); have n10_ := Aside0.mk (Kd.R_below (ra_ HO_1016001) hb); have n11_ := Aside0.mk (Kd.R_below (ra_ HO_1016002) hb); have n12_ := Aside0.mk (lb_ BK932 hb); have n13_ := Aside0.mk (lb_ BK953 hb); have n14_ := Aside0.mk (lb_ BK963 hb); have n15_ := Aside0.mk (lb_ BK974 hb); have n16_ := Aside0.mk (lb_ BK1015 hb); have n17_ := Aside0.mk (below_step (by repeat (first | (with_reducible first | exact HB.out | apply bA_ | apply bN_ | apply bD_ | refine bS_ ?_ GE932.out | refine bS_ ?_ GE953.out | refine bS_ ?_ GE963.out | refine bS_ ?_ GE974.out | refine bS_ ?_ GE1015.out) | exact HB.out)) hb); clear HO_954000; clear HO_954001; clear HO_954002; clear HO_964000; clear HO_964001; clear HO_964002; clear HO_975000; clear HO_975001; clear HO_975002; clear HO_1016000; clear HO_1016001; clear HO_1016002; clear BK932; clear BK953; clear BK963; clear BK974; clear BK1015; clear HB; have HO_954000 := n0_; have HO_954001 := n1_; have HO_954002 := n2_; have HO_964000 := n3_; have HO_964001 := n4_; have HO_964002 := n5_; have HO_975000 := n6_; have HO_975001 := n7_; have HO_975002 := n8_; have HO_1016000 := n9_; have HO_1016001 := n10_; have HO_1016002 := n11_; have BK932 := n12_; have BK953 := n13_; have BK963 := n14_; have BK974 := n15_; have BK1015 := n16_; have HB := n17_; clear n0_ n1_ n2_ n3_ n4_ n5_ n6_ n7_ n8_ n9_ n10_ n11_ n12_ n13_ n14_ n15_ n16_ n17_; (try clear hb); (try clear hb2); (try clear hk); (try clear hi)))
                go_ret
                exact ⟨by first | rfl | (simp [errW_none, errW_some] <;> rfl) | (simp [*, errW_none, errW_some] <;> rfl), by repeat (first | (with_reducible first | exact HB.out | apply bA_ | apply bN_ | apply bD_ | refine bS_ ?_ GE932.out | refine bS_ ?_ GE953.out | refine bS_ ?_ GE963.out | refine bS_ ?_ GE974.out | refine bS_ ?_ GE1015.out) | exact HB.out)⟩
               ·rw [if_neg c157] at H
                exact absurd H (by simp)
          ·rw [if_neg c104] at H
           exact absurd H (by simp)
     ·replace c67 := Bool.eq_false_iff.mpr c67
      subst c67
      have H1 : (none) = some r := by rw [if_neg (show ¬ (false = true) by decide)] at H; exact H
      clear H
      have H := H1
      clear H1
      exact absurd H (by simp)

end Go.Proofs.Ytmmpnigbfiebbaa.PA
