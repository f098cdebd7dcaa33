-- Written by a program of this session (wip/tools/myprint.py). Not trusted: Lean checks it.
import Derived.Test.YtmmpnigbfiebbaaPAx0
import Derived.Test.YtmmpnigbfiebbaaPAx3
import Derived.Test.YtmmpnigbfiebbaaPAx4
import Derived.Test.YtmmpnigbfiebbaaPAx5
import Derived.Test.YtmmpnigbfiebbaaPAx7
import Derived.Test.YtmmpnigbfiebbaaPAx28
namespace Go.Proofs.Ytmmpnigbfiebbaa.PA
open Go.RowKit Go.Proofs.YtmmpnigbfiebbaaW.PrintWords Go.Proofs.YtmmpnigbfiebbaaW.PrintLast Go.Proofs.YtmmpnigbfiebbaaW.PrintMore
attribute [local go_sem] max2_int min2_int max_two min_two max_three min_three max_four min_four   -- for this text's walks alone
set_option linter.unusedVariables false
set_option linter.unusedSimpArgs false

/-! ### laws_FnExactReplaceItem: function 13 -/
mutual
def laws_FnExactReplaceItem.j0 : Nat → Int → ByteArray → Bool → Bool → Bool → List ByteArray → List (S23) → List (S23) → List ByteArray → List (S25) → List (S25) → List ByteArray → List (S25) → List (S25) → List ByteArray → List (S25) → List (S25) → Option (Bool)
 | 0, _, _, _, _, _, _, _, _, _, _, _, _, _, _, _, _, _ => none
 | k + 1, x1, x2, x9, x12, x51, x1273000, x1273001, x1273002, x1294000, x1294001, x1294002, x1304000, x1304001, x1304002, x1315000, x1315001, x1315002 => if x51 = true then (none) else ((laws_toDesk.f k x1273000 x1273001 x1273002).bind fun bt1316 => ((laws_eqDesk.f k x1304000 x1304001 x1304002 bt1316.1 bt1316.2.1 bt1316.2.2).bind fun t1325 => (if t1325 = true then ((laws_markDesk.f k x1304000 x1304001 x1304002 1).bind fun bt1326 => (if bt1326.1 < 0 then (laws_FnExactReplaceItem.j1 k x1 x2 x9 true x1273000 x1273001 x1273002 x1294000 x1294001 x1294002 x1315000 x1315001 x1315002) else ((laws_eqDesk.f k x1315000 x1315001 x1315002 x1294000 x1294001 x1294002).bind fun t1330 => (if t1330 = true then (laws_FnExactReplaceItem.j1 k x1 x2 x9 (x12 != x9) x1273000 x1273001 x1273002 x1294000 x1294001 x1294002 x1315000 x1315001 x1315002) else (laws_FnExactReplaceItem.j1 k x1 x2 x9 true x1273000 x1273001 x1273002 x1294000 x1294001 x1294002 x1315000 x1315001 x1315002))))) else (none))))
def laws_FnExactReplaceItem.j1 : Nat → Int → ByteArray → Bool → Bool → List ByteArray → List (S23) → List (S23) → List ByteArray → List (S25) → List (S25) → List ByteArray → List (S25) → List (S25) → Option (Bool)
 | 0, _, _, _, _, _, _, _, _, _, _, _, _, _ => none
 | k + 1, x1, x2, x9, x72, x1273000, x1273001, x1273002, x1294000, x1294001, x1294002, x1315000, x1315001, x1315002 => if x72 = true then (none) else ((laws_markDesk.f k x1315000 x1315001 x1315002 1).bind fun bt1331 => ((laws_heldDesk.f k bt1331.2.1 bt1331.2.2.1 bt1331.2.2.2 1).bind fun t1335 => (if t1335 < 0 then (none) else (if t1335 = bt1331.1 then ((laws_toDesk.f k x1273000 x1273001 x1273002).bind fun bt1336 => ((impl_ReplaceItem.f k bt1336.1 bt1336.2.1 bt1336.2.2 x1 x2).bind fun bt1345 => ((laws_eqDesk.f k bt1345.1 bt1345.2.1 bt1345.2.2.1 x1294000 x1294001 x1294002).bind fun t1356 => (if t1356 = true then (laws_FnExactReplaceItem.j2 k bt1331.1 (bt1345.2.2.2 != x9) bt1331.2.1 bt1331.2.2.1 bt1331.2.2.2) else (laws_FnExactReplaceItem.j2 k bt1331.1 true bt1331.2.1 bt1331.2.2.1 bt1331.2.2.2))))) else (none)))))
def laws_FnExactReplaceItem.j2 : Nat → Int → Bool → List ByteArray → List (S25) → List (S25) → Option (Bool)
 | 0, _, _, _, _, _ => none
 | k + 1, x14, x100, x1315000, x1315001, x1315002 => if x100 = true then (none) else ((laws_heldDesk.f k x1315000 x1315001 x1315002 1).bind fun t1357 => (if t1357 < 0 then (none) else (if t1357 = x14 then (some true) else (none))))
end
def laws_FnExactReplaceItem.f (k : Nat) (l0_0 : List ByteArray) (l0_1 : List (S23)) (l0_2 : List (S23)) (a1 : Int) (a2 : ByteArray) : Option (Bool) := if (a2.size : Int) > 1048576 then (some true) else ((laws_szDesk.f k l0_0 l0_1 l0_2 1048576).bind fun t1273 => (if t1273 < 0 then (some true) else ((laws_toDesk.f k l0_0 l0_1 l0_2).bind fun bt1274 => ((spec_ReplaceItem.f k bt1274.1 bt1274.2.1 bt1274.2.2 a1 a2).bind fun bt1283 => ((laws_toDesk.f k l0_0 l0_1 l0_2).bind fun bt1294 => ((impl_ReplaceItem.f k bt1294.1 bt1294.2.1 bt1294.2.2 a1 a2).bind fun bt1304 => ((laws_eqDesk.f k bt1304.1 bt1304.2.1 bt1304.2.2.1 bt1283.1 bt1283.2.1 bt1283.2.2.1).bind fun t1315 => (if t1315 = true then (laws_FnExactReplaceItem.j0 k a1 a2 bt1283.2.2.2 bt1304.2.2.2 (bt1304.2.2.2 != bt1283.2.2.2) l0_0 l0_1 l0_2 bt1283.1 bt1283.2.1 bt1283.2.2.1 bt1294.1 bt1294.2.1 bt1294.2.2 bt1304.1 bt1304.2.1 bt1304.2.2.1) else (laws_FnExactReplaceItem.j0 k a1 a2 bt1283.2.2.2 bt1304.2.2.2 true l0_0 l0_1 l0_2 bt1283.1 bt1283.2.1 bt1283.2.2.1 bt1294.1 bt1294.2.1 bt1294.2.2 bt1304.1 bt1304.2.1 bt1304.2.2.1)))))))))
theorem laws_FnExactReplaceItem.mono_l : ∀ k, (∀ y0 y1 y2 y3 y4 y5 y6 y7 y8 y9 y10 y11 y12 y13 y14 y15 y16, LeO (laws_FnExactReplaceItem.j0 k y0 y1 y2 y3 y4 y5 y6 y7 y8 y9 y10 y11 y12 y13 y14 y15 y16) (laws_FnExactReplaceItem.j0 (k + 1) y0 y1 y2 y3 y4 y5 y6 y7 y8 y9 y10 y11 y12 y13 y14 y15 y16)) ∧ (∀ y0 y1 y2 y3 y4 y5 y6 y7 y8 y9 y10 y11 y12, LeO (laws_FnExactReplaceItem.j1 k y0 y1 y2 y3 y4 y5 y6 y7 y8 y9 y10 y11 y12) (laws_FnExactReplaceItem.j1 (k + 1) y0 y1 y2 y3 y4 y5 y6 y7 y8 y9 y10 y11 y12)) ∧ (∀ y0 y1 y2 y3 y4, LeO (laws_FnExactReplaceItem.j2 k y0 y1 y2 y3 y4) (laws_FnExactReplaceItem.j2 (k + 1) y0 y1 y2 y3 y4))
 | 0 => ⟨fun _ _ _ _ _ _ _ _ _ _ _ _ _ _ _ _ _ r h => by simp [laws_FnExactReplaceItem.j0] at h, fun _ _ _ _ _ _ _ _ _ _ _ _ _ r h => by simp [laws_FnExactReplaceItem.j1] at h, fun _ _ _ _ _ r h => by simp [laws_FnExactReplaceItem.j2] at h⟩
 | k + 1 => by
  obtain ⟨ih0, ih1, ih2⟩ := laws_FnExactReplaceItem.mono_l k
  refine ⟨?_, ?_, ?_⟩
  ·intro y0 y1 y2 y3 y4 y5 y6 y7 y8 y9 y10 y11 y12 y13 y14 y15 y16
   unfold laws_FnExactReplaceItem.j0
   repeat' first
   | (with_reducible exact ih0 _ _ _ _ _ _ _ _ _ _ _ _ _ _ _ _ _)
   | (with_reducible exact ih1 _ _ _ _ _ _ _ _ _ _ _ _ _)
   | (with_reducible exact ih2 _ _ _ _ _)
   | (with_reducible exact impl_ReplaceItem.mono _ _ _ _ _ _)
   | (with_reducible exact laws_eqDesk.mono _ _ _ _ _ _ _)
   | (with_reducible exact laws_heldDesk.mono _ _ _ _ _)
   | (with_reducible exact laws_markDesk.mono _ _ _ _ _)
   | (with_reducible exact laws_szDesk.mono _ _ _ _ _)
   | (with_reducible exact laws_toDesk.mono _ _ _ _)
   | (with_reducible exact spec_ReplaceItem.mono _ _ _ _ _ _)
   | (with_reducible exact LeO.refl _)
   | (with_reducible exact LeO.none _)
   | (with_reducible refine LeO.ite ?_ ?_)
   | (with_reducible refine LeO.bind ?_ (fun _ => ?_))
   | exact ih0 _ _ _ _ _ _ _ _ _ _ _ _ _ _ _ _ _
   | exact ih1 _ _ _ _ _ _ _ _ _ _ _ _ _
   | exact ih2 _ _ _ _ _
   | exact LeO.none _
   | refine LeO.ite ?_ ?_
   | refine LeO.bind ?_ (fun _ => ?_)
  ·intro y0 y1 y2 y3 y4 y5 y6 y7 y8 y9 y10 y11 y12
   unfold laws_FnExactReplaceItem.j1
   repeat' first
   | (with_reducible exact ih0 _ _ _ _ _ _ _ _ _ _ _ _ _ _ _ _ _)
   | (with_reducible exact ih1 _ _ _ _ _ _ _ _ _ _ _ _ _)
   | (with_reducible exact ih2 _ _ _ _ _)
   | (with_reducible exact impl_ReplaceItem.mono _ _ _ _ _ _)
   | (with_reducible exact laws_eqDesk.mono _ _ _ _ _ _ _)
   | (with_reducible exact laws_heldDesk.mono _ _ _ _ _)
   | (with_reducible exact laws_markDesk.mono _ _ _ _ _)
   | (with_reducible exact laws_szDesk.mono _ _ _ _ _)
   | (with_reducible exact laws_toDesk.mono _ _ _ _)
   | (with_reducible exact spec_ReplaceItem.mono _ _ _ _ _ _)
   | (with_reducible exact LeO.refl _)
   | (with_reducible exact LeO.none _)
   | (with_reducible refine LeO.ite ?_ ?_)
   | (with_reducible refine LeO.bind ?_ (fun _ => ?_))
   | exact ih0 _ _ _ _ _ _ _ _ _ _ _ _ _ _ _ _ _
   | exact ih1 _ _ _ _ _ _ _ _ _ _ _ _ _
   | exact ih2 _ _ _ _ _
   | exact LeO.none _
   | refine LeO.ite ?_ ?_
   | refine LeO.bind ?_ (fun _ => ?_)
  ·intro y0 y1 y2 y3 y4
   unfold laws_FnExactReplaceItem.j2
   repeat' first
   | (with_reducible exact ih0 _ _ _ _ _ _ _ _ _ _ _ _ _ _ _ _ _)
   | (with_reducible exact ih1 _ _ _ _ _ _ _ _ _ _ _ _ _)
   | (with_reducible exact ih2 _ _ _ _ _)
   | (with_reducible exact impl_ReplaceItem.mono _ _ _ _ _ _)
   | (with_reducible exact laws_eqDesk.mono _ _ _ _ _ _ _)
   | (with_reducible exact laws_heldDesk.mono _ _ _ _ _)
   | (with_reducible exact laws_markDesk.mono _ _ _ _ _)
   | (with_reducible exact laws_szDesk.mono _ _ _ _ _)
   | (with_reducible exact laws_toDesk.mono _ _ _ _)
   | (with_reducible exact spec_ReplaceItem.mono _ _ _ _ _ _)
   | (with_reducible exact LeO.refl _)
   | (with_reducible exact LeO.none _)
   | (with_reducible refine LeO.ite ?_ ?_)
   | (with_reducible refine LeO.bind ?_ (fun _ => ?_))
   | exact ih0 _ _ _ _ _ _ _ _ _ _ _ _ _ _ _ _ _
   | exact ih1 _ _ _ _ _ _ _ _ _ _ _ _ _
   | exact ih2 _ _ _ _ _
   | exact LeO.none _
   | refine LeO.ite ?_ ?_
   | refine LeO.bind ?_ (fun _ => ?_)
theorem laws_FnExactReplaceItem.mono : ∀ a0 a1 a2 a3 a4 k, LeO (laws_FnExactReplaceItem.f k a0 a1 a2 a3 a4) (laws_FnExactReplaceItem.f (k + 1) a0 a1 a2 a3 a4) := by
 intro a0 a1 a2 a3 a4 k
 obtain ⟨ih0, ih1, ih2⟩ := laws_FnExactReplaceItem.mono_l k
 unfold laws_FnExactReplaceItem.f
 repeat' first
   | (with_reducible exact ih0 _ _ _ _ _ _ _ _ _ _ _ _ _ _ _ _ _)
   | (with_reducible exact ih1 _ _ _ _ _ _ _ _ _ _ _ _ _)
   | (with_reducible exact ih2 _ _ _ _ _)
   | (with_reducible exact impl_ReplaceItem.mono _ _ _ _ _ _)
   | (with_reducible exact laws_eqDesk.mono _ _ _ _ _ _ _)
   | (with_reducible exact laws_heldDesk.mono _ _ _ _ _)
   | (with_reducible exact laws_markDesk.mono _ _ _ _ _)
   | (with_reducible exact laws_szDesk.mono _ _ _ _ _)
   | (with_reducible exact laws_toDesk.mono _ _ _ _)
   | (with_reducible exact spec_ReplaceItem.mono _ _ _ _ _ _)
   | (with_reducible exact LeO.refl _)
   | (with_reducible exact LeO.none _)
   | (with_reducible refine LeO.ite ?_ ?_)
   | (with_reducible refine LeO.bind ?_ (fun _ => ?_))
   | exact ih0 _ _ _ _ _ _ _ _ _ _ _ _ _ _ _ _ _
   | exact ih1 _ _ _ _ _ _ _ _ _ _ _ _ _
   | exact ih2 _ _ _ _ _
   | exact LeO.none _
   | refine LeO.ite ?_ ?_
   | refine LeO.bind ?_ (fun _ => ?_)
set_option maxHeartbeats 8000000 in
set_option maxRecDepth 100000 in
theorem laws_FnExactReplaceItem.calls (k : Nat) (A0_0 : Option Addr) (c0_0 : Nat) (l0_0 : List ByteArray) (A0_1 : Option Addr) (c0_1 : Nat) (l0_1 : List (S23)) (A0_2 : Option Addr) (c0_2 : Nat) (l0_2 : List (S23)) (a1 : Int) (a2 : ByteArray) (r : Bool) (w : World) (hr0_0 : Kd.C Kd.string w A0_0 l0_0.length l0_0) (hc0_0 : l0_0.length ≤ c0_0) (hr0_1 : Kd.C k23 w A0_1 l0_1.length l0_1) (hc0_1 : l0_1.length ≤ c0_1) (hr0_2 : Kd.C k23 w A0_2 l0_2.length l0_2) (hc0_2 : l0_2.length ≤ c0_2) (h : laws_FnExactReplaceItem.f k l0_0 l0_1 l0_2 a1 a2 = some r) :
  Calls Try.prog 13 #[.agg #[.slice A0_0 l0_0.length c0_0, .slice A0_1 l0_1.length c0_1, .slice A0_2 l0_2.length c0_2], .int .i64 a1, .string a2] w fun e w' => e = .returned (.bool r) ∧ Below w.heap.size w w' := by
 have hu45 := Try.underlying45
 have hu35 := Try.underlying35
 have HR0_0 := Aside0.mk hr0_0
 have HC0_0 := Aside0.mk hc0_0
 clear hr0_0 hc0_0
 have HR0_1 := Aside0.mk hr0_1
 have HC0_1 := Aside0.mk hc0_1
 clear hr0_1 hc0_1
 have HR0_2 := Aside0.mk hr0_2
 have HC0_2 := Aside0.mk hc0_2
 clear hr0_2 hc0_2
 have HB := Aside0.mk (Below.refl w.heap.size w)
 have H : (if (a2.size : Int) > 1048576 then (some true) else ((laws_szDesk.f k l0_0 l0_1 l0_2 1048576).bind fun t1273 => (if t1273 < 0 then (some true) else ((laws_toDesk.f k l0_0 l0_1 l0_2).bind fun bt1274 => ((spec_ReplaceItem.f k bt1274.1 bt1274.2.1 bt1274.2.2 a1 a2).bind fun bt1283 => ((laws_toDesk.f k l0_0 l0_1 l0_2).bind fun bt1294 => ((impl_ReplaceItem.f k bt1294.1 bt1294.2.1 bt1294.2.2 a1 a2).bind fun bt1304 => ((laws_eqDesk.f k bt1304.1 bt1304.2.1 bt1304.2.2.1 bt1283.1 bt1283.2.1 bt1283.2.2.1).bind fun t1315 => (if t1315 = true then (laws_FnExactReplaceItem.j0 k a1 a2 bt1283.2.2.2 bt1304.2.2.2 (bt1304.2.2.2 != bt1283.2.2.2) l0_0 l0_1 l0_2 bt1283.1 bt1283.2.1 bt1283.2.2.1 bt1294.1 bt1294.2.1 bt1294.2.2 bt1304.1 bt1304.2.1 bt1304.2.2.1) else (laws_FnExactReplaceItem.j0 k a1 a2 bt1283.2.2.2 bt1304.2.2.2 true l0_0 l0_1 l0_2 bt1283.1 bt1283.2.1 bt1283.2.2.1 bt1294.1 bt1294.2.1 bt1294.2.2 bt1304.1 bt1304.2.1 bt1304.2.2.1)))))))))) = some r := h
 clear h
 by_cases c4 : (a2.size : Int) > 1048576
 ·rw [if_pos c4] at H
  have c4b0 : decide (1048576 < (a2.size : Int)) = true := decide_eq_true c4
  have c4b1 : decide (1048576 < a2.size) = true := decide_eq_true (by omega)
  clear c4
  obtain rfl := Option.some.inj H
  go_enter Try.func13, Try.ntmps13
  go_wp2_with (first | ((with_reducible refine gate_dst (N := 3) rfl ?_); refine box_event ?hg (N := 3) ?hd (cs := #[.slice A0_0 l0_0.length c0_0, .slice A0_1 l0_1.length c0_1, .slice A0_2 l0_2.length c0_2]) (t := 45) ?hr ?_; (case hd => rfl); (case hg => rfl); (case hr => first | (go_simp; done) | (go_simp; rfl)); intro gb1272 hg w5 hbox hb; have n0_ := Aside0.mk (bt_ HB hb); have n1_ := Aside0.mk (hbox); have n2_ := gz_ hg HB; have n3_ := gz_ hg HB; clear HB; have HB := n0_; have BK1272 := n1_; have GW1272 := n2_; have GE1272 := n3_; clear n0_ n1_ n2_ n3_; clear hb hbox hg))
  go_ret
  exact ⟨by first | rfl | (simp [errW_none, errW_some] <;> rfl) | (simp [*, errW_none, errW_some] <;> rfl), bb1_ HB GE1272⟩
 ·rw [if_neg c4] at H
  have c4b0 : decide (1048576 < (a2.size : Int)) = false := decide_eq_false c4
  have c4b1 : decide (1048576 < a2.size) = false := decide_eq_false (by omega)
  clear c4
  replace H := Option.bind_eq_some_iff.mp H
  obtain ⟨t1273, A60, H⟩ := H
  try dsimp only at H
  have A6 := Aside0.mk A60
  clear A60
  by_cases c7 : t1273 < 0
  ·rw [if_pos c7] at H
   have c7b0 : decide (t1273 < 0) = true := decide_eq_true c7
   clear c7
   obtain rfl := Option.some.inj H
   go_enter Try.func13, Try.ntmps13
   go_wp2_with (first | ((with_reducible refine gate_dst (N := 3) rfl ?_); refine box_event ?hg (N := 3) ?hd (cs := #[.slice A0_0 l0_0.length c0_0, .slice A0_1 l0_1.length c0_1, .slice A0_2 l0_2.length c0_2]) (t := 45) ?hr ?_; (case hd => rfl); (case hg => rfl); (case hr => first | (go_simp; done) | (go_simp; rfl)); intro gb1272 hg w8 hbox hb; have n0_ := Aside0.mk (bt_ HB hb); have n1_ := Aside0.mk (hbox); have n2_ := gz_ hg HB; have n3_ := gz_ hg HB; clear HB; have HB := n0_; have BK1272 := n1_; have GW1272 := n2_; have GE1272 := n3_; clear n0_ n1_ n2_ n3_; clear hb hbox hg; have hcz9_0 := cz0_ BK1272; have hcz9_1 := cz1_ BK1272; have hcz9_2 := cz2_ BK1272; have hfz9_0 := fz_ BK1272 0; have hfz9_1 := fz_ BK1272 1; have hfz9_2 := fz_ BK1272 2) | ((with_reducible refine gate_callee (f := 28) rfl ?_); refine goesL_ (some 23) rfl rfl Try.func28 (by kernel_rfl) rfl #[.agg #[.slice A0_0 l0_0.length c0_0, .slice A0_1 l0_1.length c0_1, .slice A0_2 l0_2.length c0_2], .int .i64 1048576] rfl args_ ?_; (with_reducible refine (laws_szDesk.calls k _ _ l0_0 _ _ l0_1 _ _ l0_2 1048576 t1273 _ ?side1 ?side2 ?side3 ?side4 ?side5 ?side6 A6.out).mono ?_); (case side1 => exact cb_ HR0_0 HB); (case side2 => exact HC0_0.out); (case side3 => exact cb_ HR0_1 HB); (case side4 => exact HC0_1.out); (case side5 => exact cb_ HR0_2 HB); (case side6 => exact HC0_2.out); rintro e w10 ⟨rfl, hb⟩; refine ⟨_, rfl, ?_⟩; have n0_ := Aside0.mk (lb_ BK1272 hb); have n1_ := Aside0.mk (below_step (bb1_ HB GE1272) hb); clear BK1272; clear HB; have BK1272 := n0_; have HB := n1_; clear n0_ n1_; (try clear hb); (try clear hb2); (try clear hk); (try clear hi)))
   go_ret
   exact ⟨by first | rfl | (simp [errW_none, errW_some] <;> rfl) | (simp [*, errW_none, errW_some] <;> rfl), bb1_ HB GE1272⟩
  ·rw [if_neg c7] at H
   have c7b0 : decide (t1273 < 0) = false := decide_eq_false c7
   clear c7
   replace H := Option.bind_eq_some_iff.mp H
   obtain ⟨⟨t1274, t1277, t1280⟩, A110, H⟩ := H
   try dsimp only at H
   have A11 := Aside0.mk A110
   clear A110
   replace H := Option.bind_eq_some_iff.mp H
   obtain ⟨⟨t1283, t1286, t1289, t1292⟩, A120, H⟩ := H
   try dsimp only at H
   have A12 := Aside0.mk A120
   clear A120
   replace H := Option.bind_eq_some_iff.mp H
   obtain ⟨⟨t1294, t1297, t1300⟩, A130, H⟩ := H
   try dsimp only at H
   have A13 := Aside0.mk A130
   clear A130
   replace H := Option.bind_eq_some_iff.mp H
   obtain ⟨⟨t1304, t1307, t1310, t1313⟩, A140, H⟩ := H
   try dsimp only at H
   have A14 := Aside0.mk A140
   clear A140
   have HC15 := Aside0.mk H
   clear H
   go_enter Try.func13, Try.ntmps13
   go_upto_region 10 with (first | ((with_reducible refine gate_dst (N := 3) rfl ?_); refine box_event ?hg (N := 3) ?hd (cs := #[.slice A0_0 l0_0.length c0_0, .slice A0_1 l0_1.length c0_1, .slice A0_2 l0_2.length c0_2]) (t := 45) ?hr ?_; (case hd => rfl); (case hg => rfl); (case hr => first | (go_simp; done) | (go_simp; rfl)); intro gb1272 hg w16 hbox hb; have n0_ := Aside0.mk (bt_ HB hb); have n1_ := Aside0.mk (hbox); have n2_ := gz_ hg HB; have n3_ := gz_ hg HB; clear HB; have HB := n0_; have BK1272 := n1_; have GW1272 := n2_; have GE1272 := n3_; clear n0_ n1_ n2_ n3_; clear hb hbox hg; have hcz17_0 := cz0_ BK1272; have hcz17_1 := cz1_ BK1272; have hcz17_2 := cz2_ BK1272; have hfz17_0 := fz_ BK1272 0; have hfz17_1 := fz_ BK1272 1; have hfz17_2 := fz_ BK1272 2) | ((with_reducible refine gate_callee (f := 28) rfl ?_); refine goesL_ (some 23) rfl rfl Try.func28 (by kernel_rfl) rfl #[.agg #[.slice A0_0 l0_0.length c0_0, .slice A0_1 l0_1.length c0_1, .slice A0_2 l0_2.length c0_2], .int .i64 1048576] rfl args_ ?_; (with_reducible refine (laws_szDesk.calls k _ _ l0_0 _ _ l0_1 _ _ l0_2 1048576 t1273 _ ?side1 ?side2 ?side3 ?side4 ?side5 ?side6 A6.out).mono ?_); (case side1 => exact cb_ HR0_0 HB); (case side2 => exact HC0_0.out); (case side3 => exact cb_ HR0_1 HB); (case side4 => exact HC0_1.out); (case side5 => exact cb_ HR0_2 HB); (case side6 => exact HC0_2.out); rintro e w18 ⟨rfl, hb⟩; refine ⟨_, rfl, ?_⟩; have n0_ := Aside0.mk (lb_ BK1272 hb); have n1_ := Aside0.mk (below_step (bb1_ HB GE1272) hb); clear BK1272; clear HB; have BK1272 := n0_; have HB := n1_; clear n0_ n1_; (try clear hb); (try clear hb2); (try clear hk); (try clear hi); have hcz19_0 := cz0_ BK1272; have hcz19_1 := cz1_ BK1272; have hcz19_2 := cz2_ BK1272; have hfz19_0 := fz_ BK1272 0; have hfz19_1 := fz_ BK1272 1; have hfz19_2 := fz_ BK1272 2) | ((with_reducible refine gate_callee (f := 30) rfl ?_); refine goesL_ (some 28) rfl rfl Try.func30 (by kernel_rfl) rfl #[.agg #[.slice A0_0 l0_0.length c0_0, .slice A0_1 l0_1.length c0_1, .slice A0_2 l0_2.length c0_2]] rfl args_ ?_; (with_reducible refine (laws_toDesk.calls k _ _ l0_0 _ _ l0_1 _ _ l0_2 t1274 t1277 t1280 _ ?side1 ?side2 ?side3 ?side4 ?side5 ?side6 A11.out).mono ?_); (case side1 => exact cb_ HR0_0 HB); (case side2 => exact HC0_0.out); (case side3 => exact cb_ HR0_1 HB); (case side4 => exact HC0_1.out); (case side5 => exact cb_ HR0_2 HB); (case side6 => exact HC0_2.out); rintro e w20 ⟨v1275, v1278, v1281, rfl, ho0, ho1, ho2, hb⟩; refine ⟨_, rfl, ?_⟩; have n0_ := Aside0.mk (Kd.R_lower ho0 (below_size (bb1_ HB GE1272))); have n1_ := Aside0.mk (Kd.R_lower ho1 (below_size (bb1_ HB GE1272))); have n2_ := Aside0.mk (Kd.R_lower ho2 (below_size (bb1_ HB GE1272))); have n3_ := Aside0.mk (lb_ BK1272 hb); have n4_ := Aside0.mk (below_step (bb1_ HB GE1272) hb); clear BK1272; clear HB; have HO1276 := n0_; have HO1279 := n1_; have HO1282 := n2_; have BK1272 := n3_; have HB := n4_; clear n0_ n1_ n2_ n3_ n4_; (try clear hb); (try clear hb2); (try clear hk); (try clear hi); (try clear ho0); (try clear ho1); (try clear ho2); obtain ⟨Ao21, co21, eo21⟩ := Kd.R_slice HO1276.out; subst eo21; obtain ⟨Ao22, co22, eo22⟩ := Kd.R_slice HO1279.out; subst eo22; obtain ⟨Ao23, co23, eo23⟩ := Kd.R_slice HO1282.out; subst eo23) | ((with_reducible refine gate_callee (f := 47) rfl ?_); refine goesL_ (some 31) rfl rfl Try.func47 (by kernel_rfl) rfl #[.agg #[.slice Ao21 t1274.length co21, .slice Ao22 t1277.length co22, .slice Ao23 t1280.length co23], .int .i64 a1, .string a2] rfl args_ ?_; (with_reducible refine (spec_ReplaceItem.calls k _ _ t1274 _ _ t1277 _ _ t1280 a1 a2 t1283 t1286 t1289 t1292 _ ?side1 ?side2 ?side3 ?side4 ?side5 ?side6 A12.out).mono ?_); (case side1 => exact cr_ HO1276); (case side2 => exact (Kd.R_reads' HO1276.out).2.1); (case side3 => exact cr_ HO1279); (case side4 => exact (Kd.R_reads' HO1279.out).2.1); (case side5 => exact cr_ HO1282); (case side6 => exact (Kd.R_reads' HO1282.out).2.1); rintro e w24 ⟨v1284, v1287, v1290, rfl, ho0, ho1, ho2, hb⟩; refine ⟨_, rfl, ?_⟩; have n0_ := Aside0.mk (Kd.R_elder' (ra_ HO1276) (Kd.R_base ho0) hb); have n1_ := Aside0.mk (Kd.R_mono (Kd.R_told (Kd.R_told (Kd.R_old (ra_ HO1279) hb) (Kd.R_base ho1)) (Kd.R_base ho2)) (fun _ h_ => h_.1)); have n2_ := Aside0.mk (Kd.R_mono (Kd.R_told (Kd.R_told (Kd.R_old (ra_ HO1282) hb) (Kd.R_base ho1)) (Kd.R_base ho2)) (fun _ h_ => h_.1)); have n3_ := Aside0.mk (Kd.R_lower (Kd.R_new' ho0 (Kd.R_lt (ra_ HO1276))) (below_size (bb1_ HB GE1272))); have n4_ := Aside0.mk (Kd.R_lower (Kd.R_new' (Kd.R_new' ho1 (Kd.R_lt (ra_ HO1279))) (Kd.R_lt (ra_ HO1282))) (below_size (bb1_ HB GE1272))); have n5_ := Aside0.mk (Kd.R_lower (Kd.R_new' (Kd.R_new' ho2 (Kd.R_lt (ra_ HO1279))) (Kd.R_lt (ra_ HO1282))) (below_size (bb1_ HB GE1272))); have n6_ := Aside0.mk (lb_ BK1272 hb); have n7_ := Aside0.mk (below_step (bb1_ HB GE1272) hb); clear HO1276; clear HO1279; clear HO1282; clear BK1272; clear HB; have HO1276 := n0_; have HO1279 := n1_; have HO1282 := n2_; have HO1285 := n3_; have HO1288 := n4_; have HO1291 := n5_; have BK1272 := n6_; have HB := n7_; clear n0_ n1_ n2_ n3_ n4_ n5_ n6_ n7_; (try clear hb); (try clear hb2); (try clear hk); (try clear hi); (try clear ho0); (try clear ho1); (try clear ho2)) | ((with_reducible refine gate_dst (N := 8) rfl ?_); refine box_event ?hg (N := 8) ?hd (cs := #[.slice none 0 0, .slice none 0 0, .slice none 0 0]) (t := 35) ?hr ?_; (case hd => rfl); (case hg => rfl); (case hr => first | (go_simp; done) | (go_simp; rfl)); intro gb1293 hg w25 hbox hb; have n0_ := Aside0.mk (Kd.R_below (ra_ HO1276) hb); have n1_ := Aside0.mk (Kd.R_below (ra_ HO1279) hb); have n2_ := Aside0.mk (Kd.R_below (ra_ HO1282) hb); have n3_ := Aside0.mk (Kd.R_below (ra_ HO1285) hb); have n4_ := Aside0.mk (Kd.R_below (ra_ HO1288) hb); have n5_ := Aside0.mk (Kd.R_below (ra_ HO1291) hb); have n6_ := Aside0.mk (lb_ BK1272 hb); have n7_ := Aside0.mk (below_step (bb1_ HB GE1272) hb); have n8_ := Aside0.mk (hbox); have n9_ := gy_ hg (bb1_ HB GE1272); have n10_ := gy_ hg (bb1_ HB GE1272); have n11_ := nl_ hg BK1272; have n12_ := ng_ hg BK1272; clear HO1276; clear HO1279; clear HO1282; clear HO1285; clear HO1288; clear HO1291; clear BK1272; clear HB; have HO1276 := n0_; have HO1279 := n1_; have HO1282 := n2_; have HO1285 := n3_; have HO1288 := n4_; have HO1291 := n5_; have BK1272 := n6_; have HB := n7_; have BK1293 := n8_; have GW1293 := n9_; have GE1293 := n10_; have NB1272_1293 := n11_; have NB1293_1272 := n12_; clear n0_ n1_ n2_ n3_ n4_ n5_ n6_ n7_ n8_ n9_ n10_ n11_ n12_; clear hb hbox hg; obtain ⟨Ao26, co26, eo26⟩ := Kd.R_slice HO1285.out; subst eo26; have hnb27 := NB1293_1272.out; have hnc27 := NB1272_1293.out; have hcz28_0 := cz0_ BK1293; have hcz28_1 := cz1_ BK1293; have hcz28_2 := cz2_ BK1293; have hfz28_0 := fz_ BK1293 0; have hfz28_1 := fz_ BK1293 1; have hfz28_2 := fz_ BK1293 2; obtain ⟨Ao29, co29, eo29⟩ := Kd.R_slice HO1288.out; subst eo29; obtain ⟨Ao30, co30, eo30⟩ := Kd.R_slice HO1291.out; subst eo30; have hcz31_0 := cz0_ BK1272; have hcz31_1 := cz1_ BK1272; have hcz31_2 := cz2_ BK1272; have hfz31_0 := fz_ BK1272 0; have hfz31_1 := fz_ BK1272 1; have hfz31_2 := fz_ BK1272 2) | ((with_reducible refine gate_callee (f := 30) rfl ?_); refine goesL_ (some 35) rfl rfl Try.func30 (by kernel_rfl) rfl #[.agg #[.slice A0_0 l0_0.length c0_0, .slice A0_1 l0_1.length c0_1, .slice A0_2 l0_2.length c0_2]] rfl args_ ?_; (with_reducible refine (laws_toDesk.calls k _ _ l0_0 _ _ l0_1 _ _ l0_2 t1294 t1297 t1300 _ ?side1 ?side2 ?side3 ?side4 ?side5 ?side6 A13.out).mono ?_); (case side1 => exact Kd.C_below HR0_0.out (bb2_ HB GE1272 GE1293)); (case side2 => exact HC0_0.out); (case side3 => exact Kd.C_below HR0_1.out (bb2_ HB GE1272 GE1293)); (case side4 => exact HC0_1.out); (case side5 => exact Kd.C_below HR0_2.out (bb2_ HB GE1272 GE1293)); (case side6 => exact HC0_2.out); rintro e w32 ⟨v1295, v1298, v1301, rfl, ho0, ho1, ho2, hb⟩; refine ⟨_, rfl, ?_⟩; have n0_ := Aside0.mk (Kd.R_elder' (rf_ (fm_ (fr_ (fr_ (fr_ (ft_ HO1276 BK1293) 0 (.slice Ao26 t1283.length co26)) 1 (.slice Ao29 t1286.length co29)) 2 (.slice Ao30 t1289.length co30)))) (Kd.R_base ho0) hb); have n1_ := Aside0.mk (Kd.R_mono (Kd.R_told (Kd.R_told (Kd.R_old (rf_ (fm_ (fr_ (fr_ (fr_ (ft_ HO1279 BK1293) 0 (.slice Ao26 t1283.length co26)) 1 (.slice Ao29 t1286.length co29)) 2 (.slice Ao30 t1289.length co30)))) hb) (Kd.R_base ho1)) (Kd.R_base ho2)) (fun _ h_ => h_.1)); have n2_ := Aside0.mk (Kd.R_mono (Kd.R_told (Kd.R_told (Kd.R_old (rf_ (fm_ (fr_ (fr_ (fr_ (ft_ HO1282 BK1293) 0 (.slice Ao26 t1283.length co26)) 1 (.slice Ao29 t1286.length co29)) 2 (.slice Ao30 t1289.length co30)))) hb) (Kd.R_base ho1)) (Kd.R_base ho2)) (fun _ h_ => h_.1)); have n3_ := Aside0.mk (Kd.R_elder' (rf_ (fm_ (fr_ (fr_ (fr_ (ft_ HO1285 BK1293) 0 (.slice Ao26 t1283.length co26)) 1 (.slice Ao29 t1286.length co29)) 2 (.slice Ao30 t1289.length co30)))) (Kd.R_base ho0) hb); have n4_ := Aside0.mk (Kd.R_mono (Kd.R_told (Kd.R_told (Kd.R_old (rf_ (fm_ (fr_ (fr_ (fr_ (ft_ HO1288 BK1293) 0 (.slice Ao26 t1283.length co26)) 1 (.slice Ao29 t1286.length co29)) 2 (.slice Ao30 t1289.length co30)))) hb) (Kd.R_base ho1)) (Kd.R_base ho2)) (fun _ h_ => h_.1)); have n5_ := Aside0.mk (Kd.R_mono (Kd.R_told (Kd.R_told (Kd.R_old (rf_ (fm_ (fr_ (fr_ (fr_ (ft_ HO1291 BK1293) 0 (.slice Ao26 t1283.length co26)) 1 (.slice Ao29 t1286.length co29)) 2 (.slice Ao30 t1289.length co30)))) hb) (Kd.R_base ho1)) (Kd.R_base ho2)) (fun _ h_ => h_.1)); have n6_ := Aside0.mk (Kd.R_lower (Kd.R_new' (Kd.R_new' ho0 (Kd.R_lt (rf_ (fm_ (fr_ (fr_ (fr_ (ft_ HO1276 BK1293) 0 (.slice Ao26 t1283.length co26)) 1 (.slice Ao29 t1286.length co29)) 2 (.slice Ao30 t1289.length co30)))))) (Kd.R_lt (rf_ (fm_ (fr_ (fr_ (fr_ (ft_ HO1285 BK1293) 0 (.slice Ao26 t1283.length co26)) 1 (.slice Ao29 t1286.length co29)) 2 (.slice Ao30 t1289.length co30)))))) (below_size (bb2_ HB GE1272 GE1293))); have n7_ := Aside0.mk (Kd.R_lower (Kd.R_new' (Kd.R_new' (Kd.R_new' (Kd.R_new' ho1 (Kd.R_lt (rf_ (fm_ (fr_ (fr_ (fr_ (ft_ HO1279 BK1293) 0 (.slice Ao26 t1283.length co26)) 1 (.slice Ao29 t1286.length co29)) 2 (.slice Ao30 t1289.length co30)))))) (Kd.R_lt (rf_ (fm_ (fr_ (fr_ (fr_ (ft_ HO1282 BK1293) 0 (.slice Ao26 t1283.length co26)) 1 (.slice Ao29 t1286.length co29)) 2 (.slice Ao30 t1289.length co30)))))) (Kd.R_lt (rf_ (fm_ (fr_ (fr_ (fr_ (ft_ HO1288 BK1293) 0 (.slice Ao26 t1283.length co26)) 1 (.slice Ao29 t1286.length co29)) 2 (.slice Ao30 t1289.length co30)))))) (Kd.R_lt (rf_ (fm_ (fr_ (fr_ (fr_ (ft_ HO1291 BK1293) 0 (.slice Ao26 t1283.length co26)) 1 (.slice Ao29 t1286.length co29)) 2 (.slice Ao30 t1289.length co30)))))) (below_size (bb2_ HB GE1272 GE1293))); have n8_ := Aside0.mk (Kd.R_lower (Kd.R_new' (Kd.R_new' (Kd.R_new' (Kd.R_new' ho2 (Kd.R_lt (rf_ (fm_ (fr_ (fr_ (fr_ (ft_ HO1279 BK1293) 0 (.slice Ao26 t1283.length co26)) 1 (.slice Ao29 t1286.length co29)) 2 (.slice Ao30 t1289.length co30)))))) (Kd.R_lt (rf_ (fm_ (fr_ (fr_ (fr_ (ft_ HO1282 BK1293) 0 (.slice Ao26 t1283.length co26)) 1 (.slice Ao29 t1286.length co29)) 2 (.slice Ao30 t1289.length co30)))))) (Kd.R_lt (rf_ (fm_ (fr_ (fr_ (fr_ (ft_ HO1288 BK1293) 0 (.slice Ao26 t1283.length co26)) 1 (.slice Ao29 t1286.length co29)) 2 (.slice Ao30 t1289.length co30)))))) (Kd.R_lt (rf_ (fm_ (fr_ (fr_ (fr_ (ft_ HO1291 BK1293) 0 (.slice Ao26 t1283.length co26)) 1 (.slice Ao29 t1286.length co29)) 2 (.slice Ao30 t1289.length co30)))))) (below_size (bb2_ HB GE1272 GE1293))); have n9_ := Aside0.mk (blk_below (g := gb1272) (o := .cells #[.slice A0_0 l0_0.length c0_0, .slice A0_1 l0_1.length c0_1, .slice A0_2 l0_2.length c0_2] 45 (0, 0)) (by (with_reducible repeat (first | apply lN_ | apply lD_ | apply lA_)); refine blk_far ?_ NB1272_1293.out _; (with_reducible repeat (first | apply lN_ | apply lD_ | apply lA_)); refine blk_far ?_ NB1272_1293.out _; (with_reducible repeat (first | apply lN_ | apply lD_ | apply lA_)); refine blk_far ?_ NB1272_1293.out _; (with_reducible repeat (first | apply lN_ | apply lD_ | apply lA_)); exact BK1272.out) hb); have n10_ := Aside0.mk (blk_below (g := gb1293) (o := .cells #[.slice Ao26 t1283.length co26, .slice Ao29 t1286.length co29, .slice Ao30 t1289.length co30] 35 (0, 0)) (by (with_reducible repeat (first | apply lN_ | apply lD_ | apply lA_)); refine blk_put (cs := #[.slice Ao26 t1283.length co26, .slice Ao29 t1286.length co29, .slice none 0 0]) ?_ 2 _ rfl; (with_reducible repeat (first | apply lN_ | apply lD_ | apply lA_)); refine blk_put (cs := #[.slice Ao26 t1283.length co26, .slice none 0 0, .slice none 0 0]) ?_ 1 _ rfl; (with_reducible repeat (first | apply lN_ | apply lD_ | apply lA_)); refine blk_put (cs := #[.slice none 0 0, .slice none 0 0, .slice none 0 0]) ?_ 0 _ rfl; (with_reducible repeat (first | apply lN_ | apply lD_ | apply lA_)); exact BK1293.out) hb); have n11_ := Aside0.mk (below_step (bb2_ HB GE1272 GE1293) hb); clear HO1276; clear HO1279; clear HO1282; clear HO1285; clear HO1288; clear HO1291; clear BK1272; clear BK1293; clear HB; have HO1276 := n0_; have HO1279 := n1_; have HO1282 := n2_; have HO1285 := n3_; have HO1288 := n4_; have HO1291 := n5_; have HO1296 := n6_; have HO1299 := n7_; have HO1302 := n8_; have BK1272 := n9_; have BK1293 := n10_; have HB := n11_; clear n0_ n1_ n2_ n3_ n4_ n5_ n6_ n7_ n8_ n9_ n10_ n11_; (try clear hb); (try clear hb2); (try clear hk); (try clear hi); (try clear ho0); (try clear ho1); (try clear ho2)) | ((with_reducible refine gate_dst (N := 10) rfl ?_); refine box_event ?hg (N := 10) ?hd (cs := #[.slice none 0 0, .slice none 0 0, .slice none 0 0]) (t := 35) ?hr ?_; (case hd => rfl); (case hg => rfl); (case hr => first | (go_simp; done) | (go_simp; rfl)); intro gb1303 hg w33 hbox hb; have n0_ := Aside0.mk (Kd.R_below (ra_ HO1276) hb); have n1_ := Aside0.mk (Kd.R_below (ra_ HO1279) hb); have n2_ := Aside0.mk (Kd.R_below (ra_ HO1282) hb); have n3_ := Aside0.mk (Kd.R_below (ra_ HO1285) hb); have n4_ := Aside0.mk (Kd.R_below (ra_ HO1288) hb); have n5_ := Aside0.mk (Kd.R_below (ra_ HO1291) hb); have n6_ := Aside0.mk (Kd.R_below (ra_ HO1296) hb); have n7_ := Aside0.mk (Kd.R_below (ra_ HO1299) hb); have n8_ := Aside0.mk (Kd.R_below (ra_ HO1302) hb); have n9_ := Aside0.mk (lb_ BK1272 hb); have n10_ := Aside0.mk (lb_ BK1293 hb); have n11_ := Aside0.mk (below_step (bb2_ HB GE1272 GE1293) hb); have n12_ := Aside0.mk (hbox); have n13_ := gy_ hg (bb2_ HB GE1272 GE1293); have n14_ := gy_ hg (bb2_ HB GE1272 GE1293); have n15_ := nl_ hg BK1272; have n16_ := ng_ hg BK1272; have n17_ := nl_ hg BK1293; have n18_ := ng_ hg BK1293; clear HO1276; clear HO1279; clear HO1282; clear HO1285; clear HO1288; clear HO1291; clear HO1296; clear HO1299; clear HO1302; clear BK1272; clear BK1293; clear HB; have HO1276 := n0_; have HO1279 := n1_; have HO1282 := n2_; have HO1285 := n3_; have HO1288 := n4_; have HO1291 := n5_; have HO1296 := n6_; have HO1299 := n7_; have HO1302 := n8_; have BK1272 := n9_; have BK1293 := n10_; have HB := n11_; have BK1303 := n12_; have GW1303 := n13_; have GE1303 := n14_; have NB1272_1303 := n15_; have NB1303_1272 := n16_; have NB1293_1303 := n17_; have NB1303_1293 := n18_; clear n0_ n1_ n2_ n3_ n4_ n5_ n6_ n7_ n8_ n9_ n10_ n11_ n12_ n13_ n14_ n15_ n16_ n17_ n18_; clear hb hbox hg; obtain ⟨Ao34, co34, eo34⟩ := Kd.R_slice HO1296.out; subst eo34; have hnb35 := NB1303_1272.out; have hnc35 := NB1272_1303.out; have hnb36 := NB1303_1293.out; have hnc36 := NB1293_1303.out; have hcz37_0 := cz0_ BK1303; have hcz37_1 := cz1_ BK1303; have hcz37_2 := cz2_ BK1303; have hfz37_0 := fz_ BK1303 0; have hfz37_1 := fz_ BK1303 1; have hfz37_2 := fz_ BK1303 2; obtain ⟨Ao38, co38, eo38⟩ := Kd.R_slice HO1299.out; subst eo38; obtain ⟨Ao39, co39, eo39⟩ := Kd.R_slice HO1302.out; subst eo39) | ((with_reducible refine gate_callee (f := 48) rfl ?_); refine goesL_ (some 40) rfl rfl Try.func48 (by kernel_rfl) rfl #[.agg #[.slice Ao34 t1294.length co34, .slice Ao38 t1297.length co38, .slice Ao39 t1300.length co39], .int .i64 a1, .string a2] rfl args_ ?_; (with_reducible refine (impl_ReplaceItem.calls k _ _ t1294 _ _ t1297 _ _ t1300 a1 a2 t1304 t1307 t1310 t1313 _ ?side1 ?side2 ?side3 ?side4 ?side5 ?side6 A14.out).mono ?_); (case side1 => refine (Kd.R_reads' (e := 9) (base := w.heap.size) (ok := fun k_ => ((True ∧ some k_ ≠ (.slice Ao21 t1274.length co21 : Value).ownBlock) ∧ some k_ ≠ (.slice Ao26 t1283.length co26 : Value).ownBlock)) (n := t1294.length) (c := co34) ?_).2.2; exact (rf_ (fm_ (fr_ (fr_ (fr_ (ft_ HO1296 BK1303) 0 (.slice Ao34 t1294.length co34)) 1 (.slice Ao38 t1297.length co38)) 2 (.slice Ao39 t1300.length co39))))); (case side2 => exact (Kd.R_reads' HO1296.out).2.1); (case side3 => refine (Kd.R_reads' (e := 25) (base := w.heap.size) (ok := fun k_ => ((((some k_ ≠ (.slice Ao39 t1300.length co39 : Value).ownBlock ∧ some k_ ≠ (.slice Ao22 t1277.length co22 : Value).ownBlock) ∧ some k_ ≠ (.slice Ao23 t1280.length co23 : Value).ownBlock) ∧ some k_ ≠ (.slice Ao29 t1286.length co29 : Value).ownBlock) ∧ some k_ ≠ (.slice Ao30 t1289.length co30 : Value).ownBlock)) (n := t1297.length) (c := co38) ?_).2.2; exact (rf_ (fm_ (fr_ (fr_ (fr_ (ft_ HO1299 BK1303) 0 (.slice Ao34 t1294.length co34)) 1 (.slice Ao38 t1297.length co38)) 2 (.slice Ao39 t1300.length co39))))); (case side4 => exact (Kd.R_reads' HO1299.out).2.1); (case side5 => refine (Kd.R_reads' (e := 25) (base := w.heap.size) (ok := fun k_ => ((((some k_ ≠ (.slice Ao38 t1297.length co38 : Value).ownBlock ∧ some k_ ≠ (.slice Ao22 t1277.length co22 : Value).ownBlock) ∧ some k_ ≠ (.slice Ao23 t1280.length co23 : Value).ownBlock) ∧ some k_ ≠ (.slice Ao29 t1286.length co29 : Value).ownBlock) ∧ some k_ ≠ (.slice Ao30 t1289.length co30 : Value).ownBlock)) (n := t1300.length) (c := co39) ?_).2.2; exact (rf_ (fm_ (fr_ (fr_ (fr_ (ft_ HO1302 BK1303) 0 (.slice Ao34 t1294.length co34)) 1 (.slice Ao38 t1297.length co38)) 2 (.slice Ao39 t1300.length co39))))); (case side6 => exact (Kd.R_reads' HO1302.out).2.1); rintro e w40 ⟨v1305, v1308, v1311, rfl, ho0, ho1, ho2, hb⟩; refine ⟨_, rfl, ?_⟩; have n0_ := Aside0.mk (Kd.R_elder' (rf_ (fm_ (fr_ (fr_ (fr_ (ft_ HO1276 BK1303) 0 (.slice Ao34 t1294.length co34)) 1 (.slice Ao38 t1297.length co38)) 2 (.slice Ao39 t1300.length co39)))) (Kd.R_base ho0) hb); have n1_ := Aside0.mk (Kd.R_mono (Kd.R_told (Kd.R_told (Kd.R_old (rf_ (fm_ (fr_ (fr_ (fr_ (ft_ HO1279 BK1303) 0 (.slice Ao34 t1294.length co34)) 1 (.slice Ao38 t1297.length co38)) 2 (.slice Ao39 t1300.length co39)))) hb) (Kd.R_base ho1)) (Kd.R_base ho2)) (fun _ h_ => h_.1)); have n2_ := Aside0.mk (Kd.R_mono (Kd.R_told (Kd.R_told (Kd.R_old (rf_ (fm_ (fr_ (fr_ (fr_ (ft_ HO1282 BK1303) 0 (.slice Ao34 t1294.length co34)) 1 (.slice Ao38 t1297.length co38)) 2 (.slice Ao39 t1300.length co39)))) hb) (Kd.R_base ho1)) (Kd.R_base ho2)) (fun _ h_ => h_.1)); have n3_ := Aside0.mk (Kd.R_elder' (rf_ (fm_ (fr_ (fr_ (fr_ (ft_ HO1285 BK1303) 0 (.slice Ao34 t1294.length co34)) 1 (.slice Ao38 t1297.length co38)) 2 (.slice Ao39 t1300.length co39)))) (Kd.R_base ho0) hb); have n4_ := Aside0.mk (Kd.R_mono (Kd.R_told (Kd.R_told (Kd.R_old (rf_ (fm_ (fr_ (fr_ (fr_ (ft_ HO1288 BK1303) 0 (.slice Ao34 t1294.length co34)) 1 (.slice Ao38 t1297.length co38)) 2 (.slice Ao39 t1300.length co39)))) hb) (Kd.R_base ho1)) (Kd.R_base ho2)) (fun _ h_ => h_.1)); have n5_ := Aside0.mk (Kd.R_mono (Kd.R_told (Kd.R_told (Kd.R_old (rf_ (fm_ (fr_ (fr_ (fr_ (ft_ HO1291 BK1303) 0 (.slice Ao34 t1294.length co34)) 1 (.slice Ao38 t1297.length co38)) 2 (.slice Ao39 t1300.length co39)))) hb) (Kd.R_base ho1)) (Kd.R_base ho2)) (fun _ h_ => h_.1)); have n6_ := Aside0.mk (Kd.R_elder' (rf_ (fm_ (fr_ (fr_ (fr_ (ft_ HO1296 BK1303) 0 (.slice Ao34 t1294.length co34)) 1 (.slice Ao38 t1297.length co38)) 2 (.slice Ao39 t1300.length co39)))) (Kd.R_base ho0) hb); have n7_ := Aside0.mk (Kd.R_mono (Kd.R_told (Kd.R_told (Kd.R_old (rf_ (fm_ (fr_ (fr_ (fr_ (ft_ HO1299 BK1303) 0 (.slice Ao34 t1294.length co34)) 1 (.slice Ao38 t1297.length co38)) 2 (.slice Ao39 t1300.length co39)))) hb) (Kd.R_base ho1)) (Kd.R_base ho2)) (fun _ h_ => h_.1)); have n8_ := Aside0.mk (Kd.R_mono (Kd.R_told (Kd.R_told (Kd.R_old (rf_ (fm_ (fr_ (fr_ (fr_ (ft_ HO1302 BK1303) 0 (.slice Ao34 t1294.length co34)) 1 (.slice Ao38 t1297.length co38)) 2 (.slice Ao39 t1300.length co39)))) hb) (Kd.R_base ho1)) (Kd.R_base ho2)) (fun _ h_ => h_.1)); have n9_ := Aside0.mk (Kd.R_lower (Kd.R_new' (Kd.R_new' (Kd.R_new' ho0 (Kd.R_lt (rf_ (fm_ (fr_ (fr_ (fr_ (ft_ HO1276 BK1303) 0 (.slice Ao34 t1294.length co34)) 1 (.slice Ao38 t1297.length co38)) 2 (.slice Ao39 t1300.length co39)))))) (Kd.R_lt (rf_ (fm_ (fr_ (fr_ (fr_ (ft_ HO1285 BK1303) 0 (.slice Ao34 t1294.length co34)) 1 (.slice Ao38 t1297.length co38)) 2 (.slice Ao39 t1300.length co39)))))) (Kd.R_lt (rf_ (fm_ (fr_ (fr_ (fr_ (ft_ HO1296 BK1303) 0 (.slice Ao34 t1294.length co34)) 1 (.slice Ao38 t1297.length co38)) 2 (.slice Ao39 t1300.length co39)))))) (below_size (bb3_ HB GE1272 GE1293 GE1303))); have n10_ := Aside0.mk (Kd.R_lower (Kd.R_new' (Kd.R_new' (Kd.R_new' (Kd.R_new' (Kd.R_new' (Kd.R_new' ho1 (Kd.R_lt (rf_ (fm_ (fr_ (fr_ (fr_ (ft_ HO1279 BK1303) 0 (.slice Ao34 t1294.length co34)) 1 (.slice Ao38 t1297.length co38)) 2 (.slice Ao39 t1300.length co39)))))) (Kd.R_lt (rf_ (fm_ (fr_ (fr_ (fr_ (ft_ HO1282 BK1303) 0 (.slice Ao34 t1294.length co34)) 1 (.slice Ao38 t1297.length co38)) 2 (.slice Ao39 t1300.length co39)))))) (Kd.R_lt (rf_ (fm_ (fr_ (fr_ (fr_ (ft_ HO1288 BK1303) 0 (.slice Ao34 t1294.length co34)) 1 (.slice Ao38 t1297.length co38)) 2 (.slice Ao39 t1300.length co39)))))) (Kd.R_lt (rf_ (fm_ (fr_ (fr_ (fr_ (ft_ HO1291 BK1303) 0 (.slice Ao34 t1294.length co34)) 1 (.slice Ao38 t1297.length co38)) 2 (.slice Ao39 t1300.length co39)))))) (Kd.R_lt (rf_ (fm_ (fr_ (fr_ (fr_ (ft_ HO1299 BK1303) 0 (.slice Ao34 t1294.length co34)) 1 (.slice Ao38 t1297.length co38)) 2 (.slice Ao39 t1300.length co39)))))) (Kd.R_lt (rf_ (fm_ (fr_ (fr_ (fr_ (ft_ HO1302 BK1303) 0 (.slice Ao34 t1294.length co34)) 1 (.slice Ao38 t1297.length co38)) 2 (.slice Ao39 t1300.length co39)))))) (below_size (bb3_ HB GE1272 GE1293 GE1303))); have n11_ := Aside0.mk (Kd.R_lower (Kd.R_new' (Kd.R_new' (Kd.R_new' (Kd.R_new' (Kd.R_new' (Kd.R_new' ho2 (Kd.R_lt (rf_ (fm_ (fr_ (fr_ (fr_ (ft_ HO1279 BK1303) 0 (.slice Ao34 t1294.length co34)) 1 (.slice Ao38 t1297.length co38)) 2 (.slice Ao39 t1300.length co39)))))) (Kd.R_lt (rf_ (fm_ (fr_ (fr_ (fr_ (ft_ HO1282 BK1303) 0 (.slice Ao34 t1294.length co34)) 1 (.slice Ao38 t1297.length co38)) 2 (.slice Ao39 t1300.length co39)))))) (Kd.R_lt (rf_ (fm_ (fr_ (fr_ (fr_ (ft_ HO1288 BK1303) 0 (.slice Ao34 t1294.length co34)) 1 (.slice Ao38 t1297.length co38)) 2 (.slice Ao39 t1300.length co39)))))) (Kd.R_lt (rf_ (fm_ (fr_ (fr_ (fr_ (ft_ HO1291 BK1303) 0 (.slice Ao34 t1294.length co34)) 1 (.slice Ao38 t1297.length co38)) 2 (.slice Ao39 t1300.length co39)))))) (Kd.R_lt (rf_ (fm_ (fr_ (fr_ (fr_ (ft_ HO1299 BK1303) 0 (.slice Ao34 t1294.length co34)) 1 (.slice Ao38 t1297.length co38)) 2 (.slice Ao39 t1300.length co39)))))) (Kd.R_lt (rf_ (fm_ (fr_ (fr_ (fr_ (ft_ HO1302 BK1303) 0 (.slice Ao34 t1294.length co34)) 1 (.slice Ao38 t1297.length co38)) 2 (.slice Ao39 t1300.length co39)))))) (below_size (bb3_ HB GE1272 GE1293 GE1303))); have n12_ := Aside0.mk (blk_below (g := gb1272) (o := .cells #[.slice A0_0 l0_0.length c0_0, .slice A0_1 l0_1.length c0_1, .slice A0_2 l0_2.length c0_2] 45 (0, 0)) (by (with_reducible repeat (first | apply lN_ | apply lD_ | apply lA_)); refine blk_far ?_ NB1272_1303.out _; (with_reducible repeat (first | apply lN_ | apply lD_ | apply lA_)); refine blk_far ?_ NB1272_1303.out _; (with_reducible repeat (first | apply lN_ | apply lD_ | apply lA_)); refine blk_far ?_ NB1272_1303.out _; (with_reducible repeat (first | apply lN_ | apply lD_ | apply lA_)); exact BK1272.out) hb); have n13_ := Aside0.mk (blk_below (g := gb1293) (o := .cells #[.slice Ao26 t1283.length co26, .slice Ao29 t1286.length co29, .slice Ao30 t1289.length co30] 35 (0, 0)) (by (with_reducible repeat (first | apply lN_ | apply lD_ | apply lA_)); refine blk_far ?_ NB1293_1303.out _; (with_reducible repeat (first | apply lN_ | apply lD_ | apply lA_)); refine blk_far ?_ NB1293_1303.out _; (with_reducible repeat (first | apply lN_ | apply lD_ | apply lA_)); refine blk_far ?_ NB1293_1303.out _; (with_reducible repeat (first | apply lN_ | apply lD_ | apply lA_)); exact BK1293.out) hb); have n14_ := Aside0.mk (blk_below (g := gb1303) (o := .cells #[.slice Ao34 t1294.length co34, .slice Ao38 t1297.length co38, .slice Ao39 t1300.length co39] 35 (0, 0)) (by (with_reducible repeat (first | apply lN_ | apply lD_ | apply lA_)); refine blk_put (cs := #[.slice Ao34 t1294.length co34, .slice Ao38 t1297.length co38, .slice none 0 0]) ?_ 2 _ rfl; (with_reducible repeat (first | apply lN_ | apply lD_ | apply lA_)); refine blk_put (cs := #[.slice Ao34 t1294.length co34, .slice none 0 0, .slice none 0 0]) ?_ 1 _ rfl; (with_reducible repeat (first | apply lN_ | apply lD_ | apply lA_)); refine blk_put (cs := #[.slice none 0 0, .slice none 0 0, .slice none 0 0]) ?_ 0 _ rfl; (with_reducible repeat (first | apply lN_ | apply lD_ | apply lA_)); exact BK1303.out) hb); have n15_ := Aside0.mk (below_step (bb3_ HB GE1272 GE1293 GE1303) hb); clear HO1276; clear HO1279; clear HO1282; clear HO1285; clear HO1288; clear HO1291; clear HO1296; clear HO1299; clear HO1302; clear BK1272; clear BK1293; clear BK1303; clear HB; have HO1276 := n0_; have HO1279 := n1_; have HO1282 := n2_; have HO1285 := n3_; have HO1288 := n4_; have HO1291 := n5_; have HO1296 := n6_; have HO1299 := n7_; have HO1302 := n8_; have HO1306 := n9_; have HO1309 := n10_; have HO1312 := n11_; have BK1272 := n12_; have BK1293 := n13_; have BK1303 := n14_; have HB := n15_; clear n0_ n1_ n2_ n3_ n4_ n5_ n6_ n7_ n8_ n9_ n10_ n11_ n12_ n13_ n14_ n15_; (try clear hb); (try clear hb2); (try clear hk); (try clear hi); (try clear ho0); (try clear ho1); (try clear ho2)) | ((with_reducible refine gate_dst (N := 11) rfl ?_); refine box_event ?hg (N := 11) ?hd (cs := #[.slice none 0 0, .slice none 0 0, .slice none 0 0]) (t := 35) ?hr ?_; (case hd => rfl); (case hg => rfl); (case hr => first | (go_simp; done) | (go_simp; rfl)); intro gb1314 hg w41 hbox hb; have n0_ := Aside0.mk (Kd.R_below (ra_ HO1276) hb); have n1_ := Aside0.mk (Kd.R_below (ra_ HO1279) hb); have n2_ := Aside0.mk (Kd.R_below (ra_ HO1282) hb); have n3_ := Aside0.mk (Kd.R_below (ra_ HO1285) hb); have n4_ := Aside0.mk (Kd.R_below (ra_ HO1288) hb); have n5_ := Aside0.mk (Kd.R_below (ra_ HO1291) hb); have n6_ := Aside0.mk (Kd.R_below (ra_ HO1296) hb); have n7_ := Aside0.mk (Kd.R_below (ra_ HO1299) hb); have n8_ := Aside0.mk (Kd.R_below (ra_ HO1302) hb); have n9_ := Aside0.mk (Kd.R_below (ra_ HO1306) hb); have n10_ := Aside0.mk (Kd.R_below (ra_ HO1309) hb); have n11_ := Aside0.mk (Kd.R_below (ra_ HO1312) hb); have n12_ := Aside0.mk (lb_ BK1272 hb); have n13_ := Aside0.mk (lb_ BK1293 hb); have n14_ := Aside0.mk (lb_ BK1303 hb); have n15_ := Aside0.mk (below_step (bb3_ HB GE1272 GE1293 GE1303) hb); have n16_ := Aside0.mk (hbox); have n17_ := gy_ hg (bb3_ HB GE1272 GE1293 GE1303); have n18_ := gy_ hg (bb3_ HB GE1272 GE1293 GE1303); have n19_ := nl_ hg BK1272; have n20_ := ng_ hg BK1272; have n21_ := nl_ hg BK1293; have n22_ := ng_ hg BK1293; have n23_ := nl_ hg BK1303; have n24_ := ng_ hg BK1303; clear HO1276; clear HO1279; clear HO1282; clear HO1285; clear HO1288; clear HO1291; clear HO1296; clear HO1299; clear HO1302; clear HO1306; clear HO1309; clear HO1312; clear BK1272; clear BK1293; clear BK1303; clear HB; have HO1276 := n0_; have HO1279 := n1_; have HO1282 := n2_; have HO1285 := n3_; have HO1288 := n4_; have HO1291 := n5_; have HO1296 := n6_; have HO1299 := n7_; have HO1302 := n8_; have HO1306 := n9_; have HO1309 := n10_; have HO1312 := n11_; have BK1272 := n12_; have BK1293 := n13_; have BK1303 := n14_; have HB := n15_; have BK1314 := n16_; have GW1314 := n17_; have GE1314 := n18_; have NB1272_1314 := n19_; have NB1314_1272 := n20_; have NB1293_1314 := n21_; have NB1314_1293 := n22_; have NB1303_1314 := n23_; have NB1314_1303 := n24_; clear n0_ n1_ n2_ n3_ n4_ n5_ n6_ n7_ n8_ n9_ n10_ n11_ n12_ n13_ n14_ n15_ n16_ n17_ n18_ n19_ n20_ n21_ n22_ n23_ n24_; clear hb hbox hg; obtain ⟨Ao42, co42, eo42⟩ := Kd.R_slice HO1306.out; subst eo42; have hnb43 := NB1314_1272.out; have hnc43 := NB1272_1314.out; have hnb44 := NB1314_1293.out; have hnc44 := NB1293_1314.out; have hnb45 := NB1314_1303.out; have hnc45 := NB1303_1314.out; have hcz46_0 := cz0_ BK1314; have hcz46_1 := cz1_ BK1314; have hcz46_2 := cz2_ BK1314; have hfz46_0 := fz_ BK1314 0; have hfz46_1 := fz_ BK1314 1; have hfz46_2 := fz_ BK1314 2; obtain ⟨Ao47, co47, eo47⟩ := Kd.R_slice HO1309.out; subst eo47; obtain ⟨Ao48, co48, eo48⟩ := Kd.R_slice HO1312.out; subst eo48))
   (try simp only [Act.put, sA_, sB_, sC_])
   go_cut [51] (fun v51 wc => ∃ (kq : Nat) (x51_14 : Bool), v51 = .bool x51_14 ∧ Aside0 (laws_FnExactReplaceItem.j0 kq a1 a2 t1292 t1313 x51_14 l0_0 l0_1 l0_2 t1283 t1286 t1289 t1294 t1297 t1300 t1304 t1307 t1310 = some r) ∧ Aside0 (kq ≤ k) ∧ Aside0 (Kd.R Kd.string 9 wc w.heap.size (fun k_ => some k_ ≠ ((.slice Ao34 t1294.length co34) : Value).ownBlock ∧ some k_ ≠ ((.slice Ao42 t1304.length co42) : Value).ownBlock) (.slice Ao26 t1283.length co26) t1283) ∧ Aside0 (Kd.R k25 25 wc w.heap.size (fun k_ => some k_ ≠ ((.slice Ao30 t1289.length co30) : Value).ownBlock ∧ some k_ ≠ ((.slice Ao38 t1297.length co38) : Value).ownBlock ∧ some k_ ≠ ((.slice Ao39 t1300.length co39) : Value).ownBlock ∧ some k_ ≠ ((.slice Ao47 t1307.length co47) : Value).ownBlock ∧ some k_ ≠ ((.slice Ao48 t1310.length co48) : Value).ownBlock) (.slice Ao29 t1286.length co29) t1286) ∧ Aside0 (Kd.R k25 25 wc w.heap.size (fun k_ => some k_ ≠ ((.slice Ao29 t1286.length co29) : Value).ownBlock ∧ some k_ ≠ ((.slice Ao38 t1297.length co38) : Value).ownBlock ∧ some k_ ≠ ((.slice Ao39 t1300.length co39) : Value).ownBlock ∧ some k_ ≠ ((.slice Ao47 t1307.length co47) : Value).ownBlock ∧ some k_ ≠ ((.slice Ao48 t1310.length co48) : Value).ownBlock) (.slice Ao30 t1289.length co30) t1289) ∧ Aside0 (Kd.R Kd.string 9 wc w.heap.size (fun k_ => some k_ ≠ ((.slice Ao26 t1283.length co26) : Value).ownBlock ∧ some k_ ≠ ((.slice Ao42 t1304.length co42) : Value).ownBlock) (.slice Ao34 t1294.length co34) t1294) ∧ Aside0 (Kd.R k25 25 wc w.heap.size (fun k_ => some k_ ≠ ((.slice Ao29 t1286.length co29) : Value).ownBlock ∧ some k_ ≠ ((.slice Ao30 t1289.length co30) : Value).ownBlock ∧ some k_ ≠ ((.slice Ao39 t1300.length co39) : Value).ownBlock ∧ some k_ ≠ ((.slice Ao47 t1307.length co47) : Value).ownBlock ∧ some k_ ≠ ((.slice Ao48 t1310.length co48) : Value).ownBlock) (.slice Ao38 t1297.length co38) t1297) ∧ Aside0 (Kd.R k25 25 wc w.heap.size (fun k_ => some k_ ≠ ((.slice Ao29 t1286.length co29) : Value).ownBlock ∧ some k_ ≠ ((.slice Ao30 t1289.length co30) : Value).ownBlock ∧ some k_ ≠ ((.slice Ao38 t1297.length co38) : Value).ownBlock ∧ some k_ ≠ ((.slice Ao47 t1307.length co47) : Value).ownBlock ∧ some k_ ≠ ((.slice Ao48 t1310.length co48) : Value).ownBlock) (.slice Ao39 t1300.length co39) t1300) ∧ Aside0 (Kd.R Kd.string 9 wc w.heap.size (fun k_ => some k_ ≠ ((.slice Ao26 t1283.length co26) : Value).ownBlock ∧ some k_ ≠ ((.slice Ao34 t1294.length co34) : Value).ownBlock) (.slice Ao42 t1304.length co42) t1304) ∧ Aside0 (Kd.R k25 25 wc w.heap.size (fun k_ => some k_ ≠ ((.slice Ao29 t1286.length co29) : Value).ownBlock ∧ some k_ ≠ ((.slice Ao30 t1289.length co30) : Value).ownBlock ∧ some k_ ≠ ((.slice Ao38 t1297.length co38) : Value).ownBlock ∧ some k_ ≠ ((.slice Ao39 t1300.length co39) : Value).ownBlock ∧ some k_ ≠ ((.slice Ao48 t1310.length co48) : Value).ownBlock) (.slice Ao47 t1307.length co47) t1307) ∧ Aside0 (Kd.R k25 25 wc w.heap.size (fun k_ => some k_ ≠ ((.slice Ao29 t1286.length co29) : Value).ownBlock ∧ some k_ ≠ ((.slice Ao30 t1289.length co30) : Value).ownBlock ∧ some k_ ≠ ((.slice Ao38 t1297.length co38) : Value).ownBlock ∧ some k_ ≠ ((.slice Ao39 t1300.length co39) : Value).ownBlock ∧ some k_ ≠ ((.slice Ao47 t1307.length co47) : Value).ownBlock) (.slice Ao48 t1310.length co48) t1310) ∧ Aside0 (wc.heap[gb1272]? = some (.cells #[(.slice A0_0 l0_0.length c0_0), (.slice A0_1 l0_1.length c0_1), (.slice A0_2 l0_2.length c0_2)] 45 (0, 0))) ∧ Aside0 (wc.heap[gb1293]? = some (.cells #[(.slice Ao26 t1283.length co26), (.slice Ao29 t1286.length co29), (.slice Ao30 t1289.length co30)] 35 (0, 0))) ∧ Aside0 (wc.heap[gb1303]? = some (.cells #[(.slice Ao34 t1294.length co34), (.slice Ao38 t1297.length co38), (.slice Ao39 t1300.length co39)] 35 (0, 0))) ∧ Aside0 (wc.heap[gb1314]? = some (.cells #[(.slice Ao42 t1304.length co42), (.slice Ao47 t1307.length co47), (.slice Ao48 t1310.length co48)] 35 (0, 0))) ∧ Aside0 (Below w.heap.size w wc))
   case first =>
    have H := HC15.out
    clear HC15
    replace H := Option.bind_eq_some_iff.mp H
    obtain ⟨t1315, A490, H⟩ := H
    try dsimp only at H
    have A49 := Aside0.mk A490
    clear A490
    by_cases c50 : t1315 = true
    ·subst c50
     have H1 : (laws_FnExactReplaceItem.j0 k a1 a2 t1292 t1313 (t1313 != t1292) l0_0 l0_1 l0_2 t1283 t1286 t1289 t1294 t1297 t1300 t1304 t1307 t1310) = some r := by rw [if_pos rfl] at H; exact H
     clear H
     have H := H1
     clear H1
     have H' := Aside0.mk H
     clear H
     have hnb51 := NB1314_1272.out
     have hnc51 := NB1272_1314.out
     have hnb52 := NB1314_1293.out
     have hnc52 := NB1293_1314.out
     have hnb53 := NB1314_1303.out
     have hnc53 := NB1303_1314.out
     have hcz54_0 := cz0_ BK1314
     have hcz54_1 := cz1_ BK1314
     have hcz54_2 := cz2_ BK1314
     have hfz54_0 := fz_ BK1314 0
     have hfz54_1 := fz_ BK1314 1
     have hfz54_2 := fz_ BK1314 2
     have hnb55 := NB1293_1272.out
     have hnc55 := NB1272_1293.out
     have hnb56 := NB1293_1303.out
     have hnc56 := NB1303_1293.out
     have hcz57_0 := cz0_ BK1293
     have hcz57_1 := cz1_ BK1293
     have hcz57_2 := cz2_ BK1293
     have hfz57_0 := fz_ BK1293 0
     have hfz57_1 := fz_ BK1293 1
     have hfz57_2 := fz_ BK1293 2
     go_wp2_with (first | ((with_reducible refine gate_callee (f := 23) rfl ?_); refine goesL_ (some 45) rfl rfl Try.func23 (by kernel_rfl) rfl #[.agg #[.slice Ao42 t1304.length co42, .slice Ao47 t1307.length co47, .slice Ao48 t1310.length co48], .agg #[.slice Ao26 t1283.length co26, .slice Ao29 t1286.length co29, .slice Ao30 t1289.length co30]] rfl args_ ?_; (with_reducible refine (laws_eqDesk.calls k _ _ t1304 _ _ t1307 _ _ t1310 _ _ t1283 _ _ t1286 _ _ t1289 true _ ?side1 ?side2 ?side3 ?side4 ?side5 ?side6 ?side7 ?side8 ?side9 ?side10 ?side11 ?side12 A49.out).mono ?_); (case side1 => refine (Kd.R_reads' (e := 9) (base := w.heap.size) (ok := fun k_ => (((True ∧ some k_ ≠ (.slice Ao21 t1274.length co21 : Value).ownBlock) ∧ some k_ ≠ (.slice Ao26 t1283.length co26 : Value).ownBlock) ∧ some k_ ≠ (.slice Ao34 t1294.length co34 : Value).ownBlock)) (n := t1304.length) (c := co42) ?_).2.2; exact (rf_ (fm_ (fr_ (fr_ (fr_ (ft_ HO1306 BK1314) 0 (.slice Ao42 t1304.length co42)) 1 (.slice Ao47 t1307.length co47)) 2 (.slice Ao48 t1310.length co48))))); (case side2 => exact (Kd.R_reads' HO1306.out).2.1); (case side3 => refine (Kd.R_reads' (e := 25) (base := w.heap.size) (ok := fun k_ => ((((((some k_ ≠ (.slice Ao48 t1310.length co48 : Value).ownBlock ∧ some k_ ≠ (.slice Ao22 t1277.length co22 : Value).ownBlock) ∧ some k_ ≠ (.slice Ao23 t1280.length co23 : Value).ownBlock) ∧ some k_ ≠ (.slice Ao29 t1286.length co29 : Value).ownBlock) ∧ some k_ ≠ (.slice Ao30 t1289.length co30 : Value).ownBlock) ∧ some k_ ≠ (.slice Ao38 t1297.length co38 : Value).ownBlock) ∧ some k_ ≠ (.slice Ao39 t1300.length co39 : Value).ownBlock)) (n := t1307.length) (c := co47) ?_).2.2; exact (rf_ (fm_ (fr_ (fr_ (fr_ (ft_ HO1309 BK1314) 0 (.slice Ao42 t1304.length co42)) 1 (.slice Ao47 t1307.length co47)) 2 (.slice Ao48 t1310.length co48))))); (case side4 => exact (Kd.R_reads' HO1309.out).2.1); (case side5 => refine (Kd.R_reads' (e := 25) (base := w.heap.size) (ok := fun k_ => ((((((some k_ ≠ (.slice Ao47 t1307.length co47 : Value).ownBlock ∧ some k_ ≠ (.slice Ao22 t1277.length co22 : Value).ownBlock) ∧ some k_ ≠ (.slice Ao23 t1280.length co23 : Value).ownBlock) ∧ some k_ ≠ (.slice Ao29 t1286.length co29 : Value).ownBlock) ∧ some k_ ≠ (.slice Ao30 t1289.length co30 : Value).ownBlock) ∧ some k_ ≠ (.slice Ao38 t1297.length co38 : Value).ownBlock) ∧ some k_ ≠ (.slice Ao39 t1300.length co39 : Value).ownBlock)) (n := t1310.length) (c := co48) ?_).2.2; exact (rf_ (fm_ (fr_ (fr_ (fr_ (ft_ HO1312 BK1314) 0 (.slice Ao42 t1304.length co42)) 1 (.slice Ao47 t1307.length co47)) 2 (.slice Ao48 t1310.length co48))))); (case side6 => exact (Kd.R_reads' HO1312.out).2.1); (case side7 => refine (Kd.R_reads' (e := 9) (base := w.heap.size) (ok := fun k_ => (((True ∧ some k_ ≠ (.slice Ao21 t1274.length co21 : Value).ownBlock) ∧ some k_ ≠ (.slice Ao34 t1294.length co34 : Value).ownBlock) ∧ some k_ ≠ (.slice Ao42 t1304.length co42 : Value).ownBlock)) (n := t1283.length) (c := co26) ?_).2.2; exact (rf_ (fm_ (fr_ (fr_ (fr_ (ft_ HO1285 BK1314) 0 (.slice Ao42 t1304.length co42)) 1 (.slice Ao47 t1307.length co47)) 2 (.slice Ao48 t1310.length co48))))); (case side8 => exact (Kd.R_reads' HO1285.out).2.1); (case side9 => refine (Kd.R_reads' (e := 25) (base := w.heap.size) (ok := fun k_ => ((((((some k_ ≠ (.slice Ao30 t1289.length co30 : Value).ownBlock ∧ some k_ ≠ (.slice Ao22 t1277.length co22 : Value).ownBlock) ∧ some k_ ≠ (.slice Ao23 t1280.length co23 : Value).ownBlock) ∧ some k_ ≠ (.slice Ao38 t1297.length co38 : Value).ownBlock) ∧ some k_ ≠ (.slice Ao39 t1300.length co39 : Value).ownBlock) ∧ some k_ ≠ (.slice Ao47 t1307.length co47 : Value).ownBlock) ∧ some k_ ≠ (.slice Ao48 t1310.length co48 : Value).ownBlock)) (n := t1286.length) (c := co29) ?_).2.2; exact (rf_ (fm_ (fr_ (fr_ (fr_ (ft_ HO1288 BK1314) 0 (.slice Ao42 t1304.length co42)) 1 (.slice Ao47 t1307.length co47)) 2 (.slice Ao48 t1310.length co48))))); (case side10 => exact (Kd.R_reads' HO1288.out).2.1); (case side11 => refine (Kd.R_reads' (e := 25) (base := w.heap.size) (ok := fun k_ => ((((((some k_ ≠ (.slice Ao29 t1286.length co29 : Value).ownBlock ∧ some k_ ≠ (.slice Ao22 t1277.length co22 : Value).ownBlock) ∧ some k_ ≠ (.slice Ao23 t1280.length co23 : Value).ownBlock) ∧ some k_ ≠ (.slice Ao38 t1297.length co38 : Value).ownBlock) ∧ some k_ ≠ (.slice Ao39 t1300.length co39 : Value).ownBlock) ∧ some k_ ≠ (.slice Ao47 t1307.length co47 : Value).ownBlock) ∧ some k_ ≠ (.slice Ao48 t1310.length co48 : Value).ownBlock)) (n := t1289.length) (c := co30) ?_).2.2; exact (rf_ (fm_ (fr_ (fr_ (fr_ (ft_ HO1291 BK1314) 0 (.slice Ao42 t1304.length co42)) 1 (.slice Ao47 t1307.length co47)) 2 (.slice Ao48 t1310.length co48))))); (case side12 => exact (Kd.R_reads' HO1291.out).2.1); rintro e w58 ⟨rfl, hb⟩; refine ⟨_, rfl, ?_⟩; have n0_ := Aside0.mk (Kd.R_below (rf_ (fm_ (fr_ (fr_ (fr_ (ft_ HO1276 BK1314) 0 (.slice Ao42 t1304.length co42)) 1 (.slice Ao47 t1307.length co47)) 2 (.slice Ao48 t1310.length co48)))) hb); have n1_ := Aside0.mk (Kd.R_below (rf_ (fm_ (fr_ (fr_ (fr_ (ft_ HO1279 BK1314) 0 (.slice Ao42 t1304.length co42)) 1 (.slice Ao47 t1307.length co47)) 2 (.slice Ao48 t1310.length co48)))) hb); have n2_ := Aside0.mk (Kd.R_below (rf_ (fm_ (fr_ (fr_ (fr_ (ft_ HO1282 BK1314) 0 (.slice Ao42 t1304.length co42)) 1 (.slice Ao47 t1307.length co47)) 2 (.slice Ao48 t1310.length co48)))) hb); have n3_ := Aside0.mk (Kd.R_below (rf_ (fm_ (fr_ (fr_ (fr_ (ft_ HO1285 BK1314) 0 (.slice Ao42 t1304.length co42)) 1 (.slice Ao47 t1307.length co47)) 2 (.slice Ao48 t1310.length co48)))) hb); have n4_ := Aside0.mk (Kd.R_below (rf_ (fm_ (fr_ (fr_ (fr_ (ft_ HO1288 BK1314) 0 (.slice Ao42 t1304.length co42)) 1 (.slice Ao47 t1307.length co47)) 2 (.slice Ao48 t1310.length co48)))) hb); have n5_ := Aside0.mk (Kd.R_below (rf_ (fm_ (fr_ (fr_ (fr_ (ft_ HO1291 BK1314) 0 (.slice Ao42 t1304.length co42)) 1 (.slice Ao47 t1307.length co47)) 2 (.slice Ao48 t1310.length co48)))) hb); have n6_ := Aside0.mk (Kd.R_below (rf_ (fm_ (fr_ (fr_ (fr_ (ft_ HO1296 BK1314) 0 (.slice Ao42 t1304.length co42)) 1 (.slice Ao47 t1307.length co47)) 2 (.slice Ao48 t1310.length co48)))) hb); have n7_ := Aside0.mk (Kd.R_below (rf_ (fm_ (fr_ (fr_ (fr_ (ft_ HO1299 BK1314) 0 (.slice Ao42 t1304.length co42)) 1 (.slice Ao47 t1307.length co47)) 2 (.slice Ao48 t1310.length co48)))) hb); have n8_ := Aside0.mk (Kd.R_below (rf_ (fm_ (fr_ (fr_ (fr_ (ft_ HO1302 BK1314) 0 (.slice Ao42 t1304.length co42)) 1 (.slice Ao47 t1307.length co47)) 2 (.slice Ao48 t1310.length co48)))) hb); have n9_ := Aside0.mk (Kd.R_below (rf_ (fm_ (fr_ (fr_ (fr_ (ft_ HO1306 BK1314) 0 (.slice Ao42 t1304.length co42)) 1 (.slice Ao47 t1307.length co47)) 2 (.slice Ao48 t1310.length co48)))) hb); have n10_ := Aside0.mk (Kd.R_below (rf_ (fm_ (fr_ (fr_ (fr_ (ft_ HO1309 BK1314) 0 (.slice Ao42 t1304.length co42)) 1 (.slice Ao47 t1307.length co47)) 2 (.slice Ao48 t1310.length co48)))) hb); have n11_ := Aside0.mk (Kd.R_below (rf_ (fm_ (fr_ (fr_ (fr_ (ft_ HO1312 BK1314) 0 (.slice Ao42 t1304.length co42)) 1 (.slice Ao47 t1307.length co47)) 2 (.slice Ao48 t1310.length co48)))) hb); have n12_ := Aside0.mk (blk_below (g := gb1272) (o := .cells #[.slice A0_0 l0_0.length c0_0, .slice A0_1 l0_1.length c0_1, .slice A0_2 l0_2.length c0_2] 45 (0, 0)) (by (with_reducible repeat (first | apply lN_ | apply lD_ | apply lA_)); refine blk_far ?_ NB1272_1314.out _; (with_reducible repeat (first | apply lN_ | apply lD_ | apply lA_)); refine blk_far ?_ NB1272_1314.out _; (with_reducible repeat (first | apply lN_ | apply lD_ | apply lA_)); refine blk_far ?_ NB1272_1314.out _; (with_reducible repeat (first | apply lN_ | apply lD_ | apply lA_)); exact BK1272.out) hb); have n13_ := Aside0.mk (blk_below (g := gb1293) (o := .cells #[.slice Ao26 t1283.length co26, .slice Ao29 t1286.length co29, .slice Ao30 t1289.length co30] 35 (0, 0)) (by (with_reducible repeat (first | apply lN_ | apply lD_ | apply lA_)); refine blk_far ?_ NB1293_1314.out _; (with_reducible repeat (first | apply lN_ | apply lD_ | apply lA_)); refine blk_far ?_ NB1293_1314.out _; (with_reducible repeat (first | apply lN_ | apply lD_ | apply lA_)); refine blk_far ?_ NB1293_1314.out _; (with_reducible repeat (first | apply lN_ | apply lD_ | apply lA_)); exact BK1293.out) hb); have n14_ := Aside0.mk (blk_below (g := gb1303) (o := .cells #[.slice Ao34 t1294.length co34, .slice Ao38 t1297.length co38, .slice Ao39 t1300.length co39] 35 (0, 0)) (by (with_reducible repeat (first | apply lN_ | apply lD_ | apply lA_)); refine blk_far ?_ NB1303_1314.out _; (with_reducible repeat (first | apply lN_ | apply lD_ | apply lA_)); refine blk_far ?_ NB1303_1314.out _; (with_reducible repeat (first | apply lN_ | apply lD_ | apply lA_)); refine blk_far ?_ NB1303_1314.out _; (with_reducible repeat (first | apply lN_ | apply lD_ | apply lA_)); exact BK1303.out) hb); have n15_ := Aside0.mk (blk_below (g := gb1314) (o := .cells #[.slice Ao42 t1304.length co42, .slice Ao47 t1307.length co47, .slice Ao48 t1310.length co48] 35 (0, 0)) (by (with_reducible repeat (first | apply lN_ | apply lD_ | apply lA_)); refine blk_put (cs := #[.slice Ao42 t1304.length co42, .slice Ao47 t1307.length co47, .slice none 0 0]) ?_ 2 _ rfl; (with_reducible repeat (first | apply lN_ | apply lD_ | apply lA_)); refine blk_put (cs := #[.slice Ao42 t1304.length co42, .slice none 0 0, .slice none 0 0]) ?_ 1 _ rfl; (with_reducible repeat (first | apply lN_ | apply lD_ | apply lA_)); refine blk_put (cs := #[.slice none 0 0, .slice none 0 0, .slice none 0 0]) ?_ 0 _ rfl; (with_reducible repeat (first | apply lN_ | apply lD_ | apply lA_)); exact BK1314.out) hb); have n16_ := Aside0.mk (below_step (bb4_ HB GE1272 GE1293 GE1303 GE1314) hb); clear HO1276; clear HO1279; clear HO1282; clear HO1285; clear HO1288; clear HO1291; clear HO1296; clear HO1299; clear HO1302; clear HO1306; clear HO1309; clear HO1312; clear BK1272; clear BK1293; clear BK1303; clear BK1314; clear HB; have HO1276 := n0_; have HO1279 := n1_; have HO1282 := n2_; have HO1285 := n3_; have HO1288 := n4_; have HO1291 := n5_; have HO1296 := n6_; have HO1299 := n7_; have HO1302 := n8_; have HO1306 := n9_; have HO1309 := n10_; have HO1312 := n11_; have BK1272 := n12_; have BK1293 := n13_; have BK1303 := n14_; have BK1314 := n15_; have HB := n16_; clear n0_ n1_ n2_ n3_ n4_ n5_ n6_ n7_ n8_ n9_ n10_ n11_ n12_ n13_ n14_ n15_ n16_; (try clear hb); (try clear hb2); (try clear hk); (try clear hi)))
     go_meet
     case rel => exact ⟨_, ((t1313 != t1292)), (by first | rfl | (simp; done) | (simp [*]; done)), H', ⟨by first | omega | exact Nat.le_refl _⟩, ⟨by (with_reducible repeat (first | apply rA_ | apply rN_ | apply rD_)); exact Kd.R_mono HO1285.out (fun _ hk => ⟨hk.1.2, hk.2⟩)⟩, ⟨by (with_reducible repeat (first | apply rA_ | apply rN_ | apply rD_)); exact Kd.R_mono HO1288.out (fun _ hk => ⟨hk.1.1.1.1.1.1, ⟨hk.1.1.1.2, ⟨hk.1.1.2, ⟨hk.1.2, hk.2⟩⟩⟩⟩)⟩, ⟨by (with_reducible repeat (first | apply rA_ | apply rN_ | apply rD_)); exact Kd.R_mono HO1291.out (fun _ hk => ⟨hk.1.1.1.1.1.1, ⟨hk.1.1.1.2, ⟨hk.1.1.2, ⟨hk.1.2, hk.2⟩⟩⟩⟩)⟩, ⟨by (with_reducible repeat (first | apply rA_ | apply rN_ | apply rD_)); exact Kd.R_mono HO1296.out (fun _ hk => ⟨hk.1.2, hk.2⟩)⟩, ⟨by (with_reducible repeat (first | apply rA_ | apply rN_ | apply rD_)); exact Kd.R_mono HO1299.out (fun _ hk => ⟨hk.1.1.1.2, ⟨hk.1.1.2, ⟨hk.1.1.1.1.1.1, ⟨hk.1.2, hk.2⟩⟩⟩⟩)⟩, ⟨by (with_reducible repeat (first | apply rA_ | apply rN_ | apply rD_)); exact Kd.R_mono HO1302.out (fun _ hk => ⟨hk.1.1.1.2, ⟨hk.1.1.2, ⟨hk.1.1.1.1.1.1, ⟨hk.1.2, hk.2⟩⟩⟩⟩)⟩, ⟨by (with_reducible repeat (first | apply rA_ | apply rN_ | apply rD_)); exact Kd.R_mono HO1306.out (fun _ hk => ⟨hk.1.2, hk.2⟩)⟩, ⟨by (with_reducible repeat (first | apply rA_ | apply rN_ | apply rD_)); exact Kd.R_mono HO1309.out (fun _ hk => ⟨hk.1.1.1.2, ⟨hk.1.1.2, ⟨hk.1.2, ⟨hk.2, hk.1.1.1.1.1.1⟩⟩⟩⟩)⟩, ⟨by (with_reducible repeat (first | apply rA_ | apply rN_ | apply rD_)); exact Kd.R_mono HO1312.out (fun _ hk => ⟨hk.1.1.1.2, ⟨hk.1.1.2, ⟨hk.1.2, ⟨hk.2, hk.1.1.1.1.1.1⟩⟩⟩⟩)⟩, ⟨by (with_reducible repeat (first | apply lN_ | apply lD_ | apply lA_)); exact BK1272.out⟩, ⟨by (with_reducible repeat (first | apply lN_ | apply lD_ | apply lA_)); exact BK1293.out⟩, ⟨by (with_reducible repeat (first | apply lN_ | apply lD_ | apply lA_)); exact BK1303.out⟩, ⟨by (with_reducible repeat (first | apply lN_ | apply lD_ | apply lA_)); exact BK1314.out⟩, ⟨bb4_ HB GE1272 GE1293 GE1303 GE1314⟩⟩
    ·replace c50 := Bool.eq_false_iff.mpr c50
     subst c50
     have H1 : (laws_FnExactReplaceItem.j0 k a1 a2 t1292 t1313 true l0_0 l0_1 l0_2 t1283 t1286 t1289 t1294 t1297 t1300 t1304 t1307 t1310) = some r := by rw [if_neg (show ¬ (false = true) by decide)] at H; exact H
     clear H
     have H := H1
     clear H1
     have H' := Aside0.mk H
     clear H
     have hnb59 := NB1314_1272.out
     have hnc59 := NB1272_1314.out
     have hnb60 := NB1314_1293.out
     have hnc60 := NB1293_1314.out
     have hnb61 := NB1314_1303.out
     have hnc61 := NB1303_1314.out
     have hcz62_0 := cz0_ BK1314
     have hcz62_1 := cz1_ BK1314
     have hcz62_2 := cz2_ BK1314
     have hfz62_0 := fz_ BK1314 0
     have hfz62_1 := fz_ BK1314 1
     have hfz62_2 := fz_ BK1314 2
     have hnb63 := NB1293_1272.out
     have hnc63 := NB1272_1293.out
     have hnb64 := NB1293_1303.out
     have hnc64 := NB1303_1293.out
     have hcz65_0 := cz0_ BK1293
     have hcz65_1 := cz1_ BK1293
     have hcz65_2 := cz2_ BK1293
     have hfz65_0 := fz_ BK1293 0
     have hfz65_1 := fz_ BK1293 1
     have hfz65_2 := fz_ BK1293 2
     go_wp2_with (first | ((with_reducible refine gate_callee (f := 23) rfl ?_); refine goesL_ (some 45) rfl rfl Try.func23 (by kernel_rfl) rfl #[.agg #[.slice Ao42 t1304.length co42, .slice Ao47 t1307.length co47, .slice Ao48 t1310.length co48], .agg #[.slice Ao26 t1283.length co26, .slice Ao29 t1286.length co29, .slice Ao30 t1289.length co30]] rfl args_ ?_; (with_reducible refine (laws_eqDesk.calls k _ _ t1304 _ _ t1307 _ _ t1310 _ _ t1283 _ _ t1286 _ _ t1289 false _ ?side1 ?side2 ?side3 ?side4 ?side5 ?side6 ?side7 ?side8 ?side9 ?side10 ?side11 ?side12 A49.out).mono ?_); (case side1 => refine (Kd.R_reads' (e := 9) (base := w.heap.size) (ok := fun k_ => (((True ∧ some k_ ≠ (.slice Ao21 t1274.length co21 : Value).ownBlock) ∧ some k_ ≠ (.slice Ao26 t1283.length co26 : Value).ownBlock) ∧ some k_ ≠ (.slice Ao34 t1294.length co34 : Value).ownBlock)) (n := t1304.length) (c := co42) ?_).2.2; exact (rf_ (fm_ (fr_ (fr_ (fr_ (ft_ HO1306 BK1314) 0 (.slice Ao42 t1304.length co42)) 1 (.slice Ao47 t1307.length co47)) 2 (.slice Ao48 t1310.length co48))))); (case side2 => exact (Kd.R_reads' HO1306.out).2.1); (case side3 => refine (Kd.R_reads' (e := 25) (base := w.heap.size) (ok := fun k_ => ((((((some k_ ≠ (.slice Ao48 t1310.length co48 : Value).ownBlock ∧ some k_ ≠ (.slice Ao22 t1277.length co22 : Value).ownBlock) ∧ some k_ ≠ (.slice Ao23 t1280.length co23 : Value).ownBlock) ∧ some k_ ≠ (.slice Ao29 t1286.length co29 : Value).ownBlock) ∧ some k_ ≠ (.slice Ao30 t1289.length co30 : Value).ownBlock) ∧ some k_ ≠ (.slice Ao38 t1297.length co38 : Value).ownBlock) ∧ some k_ ≠ (.slice Ao39 t1300.length co39 : Value).ownBlock)) (n := t1307.length) (c := co47) ?_).2.2; exact (rf_ (fm_ (fr_ (fr_ (fr_ (ft_ HO1309 BK1314) 0 (.slice Ao42 t1304.length co42)) 1 (.slice Ao47 t1307.length co47)) 2 (.slice Ao48 t1310.length co48))))); (case side4 => exact (Kd.R_reads' HO1309.out).2.1); (case side5 => refine (Kd.R_reads' (e := 25) (base := w.heap.size) (ok := fun k_ => ((((((some k_ ≠ (.slice Ao47 t1307.length co47 : Value).ownBlock ∧ some k_ ≠ (.slice Ao22 t1277.length co22 : Value).ownBlock) ∧ some k_ ≠ (.slice Ao23 t1280.length co23 : Value).ownBlock) ∧ some k_ ≠ (.slice Ao29 t1286.length co29 : Value).ownBlock) ∧ some k_ ≠ (.slice Ao30 t1289.length co30 : Value).ownBlock) ∧ some k_ ≠ (.slice Ao38 t1297.length co38 : Value).ownBlock) ∧ some k_ ≠ (.slice Ao39 t1300.length co39 : Value).ownBlock)) (n := t1310.length) (c := co48) ?_).2.2; exact (rf_ (fm_ (fr_ (fr_ (fr_ (ft_ HO1312 BK1314) 0 (.slice Ao42 t1304.length co42)) 1 (.slice Ao47 t1307.length co47)) 2 (.slice Ao48 t1310.length co48))))); (case side6 => exact (Kd.R_reads' HO1312.out).2.1); (case side7 => refine (Kd.R_reads' (e := 9) (base := w.heap.size) (ok := fun k_ => (((True ∧ some k_ ≠ (.slice Ao21 t1274.length co21 : Value).ownBlock) ∧ some k_ ≠ (.slice Ao34 t1294.length co34 : Value).ownBlock) ∧ some k_ ≠ (.slice Ao42 t1304.length co42 : Value).ownBlock)) (n := t1283.length) (c := co26) ?_).2.2; exact (rf_ (fm_ (fr_ (fr_ (fr_ (ft_ HO1285 BK1314) 0 (.slice Ao42 t1304.length co42)) 1 (.slice Ao47 t1307.length co47)) 2 (.slice Ao48 t1310.length co48))))); (case side8 => exact (Kd.R_reads' HO1285.out).2.1); (case side9 => refine (Kd.R_reads' (e := 25) (base := w.heap.size) (ok := fun k_ => ((((((some k_ ≠ (.slice Ao30 t1289.length co30 : Value).ownBlock ∧ some k_ ≠ (.slice Ao22 t1277.length co22 : Value).ownBlock) ∧ some k_ ≠ (.slice Ao23 t1280.length co23 : Value).ownBlock) ∧ some k_ ≠ (.slice Ao38 t1297.length co38 : Value).ownBlock) ∧ some k_ ≠ (.slice Ao39 t1300.length co39 : Value).ownBlock) ∧ some k_ ≠ (.slice Ao47 t1307.length co47 : Value).ownBlock) ∧ some k_ ≠ (.slice Ao48 t1310.length co48 : Value).ownBlock)) (n := t1286.length) (c := co29) ?_).2.2; exact (rf_ (fm_ (fr_ (fr_ (fr_ (ft_ HO1288 BK1314) 0 (.slice Ao42 t1304.length co42)) 1 (.slice Ao47 t1307.length co47)) 2 (.slice Ao48 t1310.length co48))))); (case side10 => exact (Kd.R_reads' HO1288.out).2.1); (case side11 => refine (Kd.R_reads' (e := 25) (base := w.heap.size) (ok := fun k_ => ((((((some k_ ≠ (.slice Ao29 t1286.length co29 : Value).ownBlock ∧ some k_ ≠ (.slice Ao22 t1277.length co22 : Value).ownBlock) ∧ some k_ ≠ (.slice Ao23 t1280.length co23 : Value).ownBlock) ∧ some k_ ≠ (.slice Ao38 t1297.length co38 : Value).ownBlock) ∧ some k_ ≠ (.slice Ao39 t1300.length co39 : Value).ownBlock) ∧ some k_ ≠ (.slice Ao47 t1307.length co47 : Value).ownBlock) ∧ some k_ ≠ (.slice Ao48 t1310.length co48 : Value).ownBlock)) (n := t1289.length) (c := co30) ?_).2.2; exact (rf_ (fm_ (fr_ (fr_ (fr_ (ft_ HO1291 BK1314) 0 (.slice Ao42 t1304.length co42)) 1 (.slice Ao47 t1307.length co47)) 2 (.slice Ao48 t1310.length co48))))); (case side12 => exact (Kd.R_reads' HO1291.out).2.1); rintro e w66 ⟨rfl, hb⟩; refine ⟨_, rfl, ?_⟩; have n0_ := Aside0.mk (Kd.R_below (rf_ (fm_ (fr_ (fr_ (fr_ (ft_ HO1276 BK1314) 0 (.slice Ao42 t1304.length co42)) 1 (.slice Ao47 t1307.length co47)) 2 (.slice Ao48 t1310.length co48)))) hb); have n1_ := Aside0.mk (Kd.R_below (rf_ (fm_ (fr_ (fr_ (fr_ (ft_ HO1279 BK1314) 0 (.slice Ao42 t1304.length co42)) 1 (.slice Ao47 t1307.length co47)) 2 (.slice Ao48 t1310.length co48)))) hb); have n2_ := Aside0.mk (Kd.R_below (rf_ (fm_ (fr_ (fr_ (fr_ (ft_ HO1282 BK1314) 0 (.slice Ao42 t1304.length co42)) 1 (.slice Ao47 t1307.length co47)) 2 (.slice Ao48 t1310.length co48)))) hb); have n3_ := Aside0.mk (Kd.R_below (rf_ (fm_ (fr_ (fr_ (fr_ (ft_ HO1285 BK1314) 0 (.slice Ao42 t1304.length co42)) 1 (.slice Ao47 t1307.length co47)) 2 (.slice Ao48 t1310.length co48)))) hb); have n4_ := Aside0.mk (Kd.R_below (rf_ (fm_ (fr_ (fr_ (fr_ (ft_ HO1288 BK1314) 0 (.slice Ao42 t1304.length co42)) 1 (.slice Ao47 t1307.length co47)) 2 (.slice Ao48 t1310.length co48)))) hb); have n5_ := Aside0.mk (Kd.R_below (rf_ (fm_ (fr_ (fr_ (fr_ (ft_ HO1291 BK1314) 0 (.slice Ao42 t1304.length co42)) 1 (.slice Ao47 t1307.length co47)) 2 (.slice Ao48 t1310.length co48)))) hb); have n6_ := Aside0.mk (Kd.R_below (rf_ (fm_ (fr_ (fr_ (fr_ (ft_ HO1296 BK1314) 0 (.slice Ao42 t1304.length co42)) 1 (.slice Ao47 t1307.length co47)) 2 (.slice Ao48 t1310.length co48)))) hb); have n7_ := Aside0.mk (Kd.R_below (rf_ (fm_ (fr_ (fr_ (fr_ (ft_ HO1299 BK1314) 0 (.slice Ao42 t1304.length co42)) 1 (.slice Ao47 t1307.length co47)) 2 (.slice Ao48 t1310.length co48)))) hb); have n8_ := Aside0.mk (Kd.R_below (rf_ (fm_ (fr_ (fr_ (fr_ (ft_ HO1302 BK1314) 0 (.slice Ao42 t1304.length co42)) 1 (.slice Ao47 t1307.length co47)) 2 (.slice Ao48 t1310.length co48)))) hb); have n9_ := Aside0.mk (Kd.R_below (rf_ (fm_ (fr_ (fr_ (fr_ (ft_ HO1306 BK1314) 0 (.slice Ao42 t1304.length co42)) 1 (.slice Ao47 t1307.length co47)) 2 (.slice Ao48 t1310.length co48)))) hb); have n10_ := Aside0.mk (Kd.R_below (rf_ (fm_ (fr_ (fr_ (fr_ (ft_ HO1309 BK1314) 0 (.slice Ao42 t1304.length co42)) 1 (.slice Ao47 t1307.length co47)) 2 (.slice Ao48 t1310.length co48)))) hb); have n11_ := Aside0.mk (Kd.R_below (rf_ (fm_ (fr_ (fr_ (fr_ (ft_ HO1312 BK1314) 0 (.slice Ao42 t1304.length co42)) 1 (.slice Ao47 t1307.length co47)) 2 (.slice Ao48 t1310.length co48)))) hb); have n12_ := Aside0.mk (blk_below (g := gb1272) (o := .cells #[.slice A0_0 l0_0.length c0_0, .slice A0_1 l0_1.length c0_1, .slice A0_2 l0_2.length c0_2] 45 (0, 0)) (by (with_reducible repeat (first | apply lN_ | apply lD_ | apply lA_)); refine blk_far ?_ NB1272_1314.out _; (with_reducible repeat (first | apply lN_ | apply lD_ | apply lA_)); refine blk_far ?_ NB1272_1314.out _; (with_reducible repeat (first | apply lN_ | apply lD_ | apply lA_)); refine blk_far ?_ NB1272_1314.out _; (with_reducible repeat (first | apply lN_ | apply lD_ | apply lA_)); exact BK1272.out) hb); have n13_ := Aside0.mk (blk_below (g := gb1293) (o := .cells #[.slice Ao26 t1283.length co26, .slice Ao29 t1286.length co29, .slice Ao30 t1289.length co30] 35 (0, 0)) (by (with_reducible repeat (first | apply lN_ | apply lD_ | apply lA_)); refine blk_far ?_ NB1293_1314.out _; (with_reducible repeat (first | apply lN_ | apply lD_ | apply lA_)); refine blk_far ?_ NB1293_1314.out _; (with_reducible repeat (first | apply lN_ | apply lD_ | apply lA_)); refine blk_far ?_ NB1293_1314.out _; (with_reducible repeat (first | apply lN_ | apply lD_ | apply lA_)); exact BK1293.out) hb); have n14_ := Aside0.mk (blk_below (g := gb1303) (o := .cells #[.slice Ao34 t1294.length co34, .slice Ao38 t1297.length co38, .slice Ao39 t1300.length co39] 35 (0, 0)) (by (with_reducible repeat (first | apply lN_ | apply lD_ | apply lA_)); refine blk_far ?_ NB1303_1314.out _; (with_reducible repeat (first | apply lN_ | apply lD_ | apply lA_)); refine blk_far ?_ NB1303_1314.out _; (with_reducible repeat (first | apply lN_ | apply lD_ | apply lA_)); refine blk_far ?_ NB1303_1314.out _; (with_reducible repeat (first | apply lN_ | apply lD_ | apply lA_)); exact BK1303.out) hb); have n15_ := Aside0.mk (blk_below (g := gb1314) (o := .cells #[.slice Ao42 t1304.length co42, .slice Ao47 t1307.length co47, .slice Ao48 t1310.length co48] 35 (0, 0)) (by (with_reducible repeat (first | apply lN_ | apply lD_ | apply lA_)); refine blk_put (cs := #[.slice Ao42 t1304.length co42, .slice Ao47 t1307.length co47, .slice none 0 0]) ?_ 2 _ rfl; (with_reducible repeat (first | apply lN_ | apply lD_ | apply lA_)); refine blk_put (cs := #[.slice Ao42 t1304.length co42, .slice none 0 0, .slice none 0 0]) ?_ 1 _ rfl; (with_reducible repeat (first | apply lN_ | apply lD_ | apply lA_)); refine blk_put (cs := #[.slice none 0 0, .slice none 0 0, .slice none 0 0]) ?_ 0 _ rfl; (with_reducible repeat (first | apply lN_ | apply lD_ | apply lA_)); exact BK1314.out) hb); have n16_ := Aside0.mk (below_step (bb4_ HB GE1272 GE1293 GE1303 GE1314) hb); clear HO1276; clear HO1279; clear HO1282; clear HO1285; clear HO1288; clear HO1291; clear HO1296; clear HO1299; clear HO1302; clear HO1306; clear HO1309; clear HO1312; clear BK1272; clear BK1293; clear BK1303; clear BK1314; clear HB; have HO1276 := n0_; have HO1279 := n1_; have HO1282 := n2_; have HO1285 := n3_; have HO1288 := n4_; have HO1291 := n5_; have HO1296 := n6_; have HO1299 := n7_; have HO1302 := n8_; have HO1306 := n9_; have HO1309 := n10_; have HO1312 := n11_; have BK1272 := n12_; have BK1293 := n13_; have BK1303 := n14_; have BK1314 := n15_; have HB := n16_; clear n0_ n1_ n2_ n3_ n4_ n5_ n6_ n7_ n8_ n9_ n10_ n11_ n12_ n13_ n14_ n15_ n16_; (try clear hb); (try clear hb2); (try clear hk); (try clear hi)))
     go_meet
     case rel => exact ⟨_, (true), (by first | rfl | (simp; done) | (simp [*]; done)), H', ⟨by first | omega | exact Nat.le_refl _⟩, ⟨by (with_reducible repeat (first | apply rA_ | apply rN_ | apply rD_)); exact Kd.R_mono HO1285.out (fun _ hk => ⟨hk.1.2, hk.2⟩)⟩, ⟨by (with_reducible repeat (first | apply rA_ | apply rN_ | apply rD_)); exact Kd.R_mono HO1288.out (fun _ hk => ⟨hk.1.1.1.1.1.1, ⟨hk.1.1.1.2, ⟨hk.1.1.2, ⟨hk.1.2, hk.2⟩⟩⟩⟩)⟩, ⟨by (with_reducible repeat (first | apply rA_ | apply rN_ | apply rD_)); exact Kd.R_mono HO1291.out (fun _ hk => ⟨hk.1.1.1.1.1.1, ⟨hk.1.1.1.2, ⟨hk.1.1.2, ⟨hk.1.2, hk.2⟩⟩⟩⟩)⟩, ⟨by (with_reducible repeat (first | apply rA_ | apply rN_ | apply rD_)); exact Kd.R_mono HO1296.out (fun _ hk => ⟨hk.1.2, hk.2⟩)⟩, ⟨by (with_reducible repeat (first | apply rA_ | apply rN_ | apply rD_)); exact Kd.R_mono HO1299.out (fun _ hk => ⟨hk.1.1.1.2, ⟨hk.1.1.2, ⟨hk.1.1.1.1.1.1, ⟨hk.1.2, hk.2⟩⟩⟩⟩)⟩, ⟨by (with_reducible repeat (first | apply rA_ | apply rN_ | apply rD_)); exact Kd.R_mono HO1302.out (fun _ hk => ⟨hk.1.1.1.2, ⟨hk.1.1.2, ⟨hk.1.1.1.1.1.1, ⟨hk.1.2, hk.2⟩⟩⟩⟩)⟩, ⟨by (with_reducible repeat (first | apply rA_ | apply rN_ | apply rD_)); exact Kd.R_mono HO1306.out (fun _ hk => ⟨hk.1.2, hk.2⟩)⟩, ⟨by (with_reducible repeat (first | apply rA_ | apply rN_ | apply rD_)); exact Kd.R_mono HO1309.out (fun _ hk => ⟨hk.1.1.1.2, ⟨hk.1.1.2, ⟨hk.1.2, ⟨hk.2, hk.1.1.1.1.1.1⟩⟩⟩⟩)⟩, ⟨by (with_reducible repeat (first | apply rA_ | apply rN_ | apply rD_)); exact Kd.R_mono HO1312.out (fun _ hk => ⟨hk.1.1.1.2, ⟨hk.1.1.2, ⟨hk.1.2, ⟨hk.2, hk.1.1.1.1.1.1⟩⟩⟩⟩)⟩, ⟨by (with_reducible repeat (first | apply lN_ | apply lD_ | apply lA_)); exact BK1272.out⟩, ⟨by (with_reducible repeat (first | apply lN_ | apply lD_ | apply lA_)); exact BK1293.out⟩, ⟨by (with_reducible repeat (first | apply lN_ | apply lD_ | apply lA_)); exact BK1303.out⟩, ⟨by (with_reducible repeat (first | apply lN_ | apply lD_ | apply lA_)); exact BK1314.out⟩, ⟨bb4_ HB GE1272 GE1293 GE1303 GE1314⟩⟩
   case rest =>
    clear HC15
    try clear c1
    try clear c2
    try clear p2
    try clear c3
    try clear c4
    try clear c4b0
    try clear c4b1
    try clear c5
    try clear c6
    try clear c7
    try clear c7b0
    try clear c13
    try clear c23
    try clear c27
    try clear c28
    try clear c30
    try clear c35
    try clear c36
    try clear c43
    try clear c44
    try clear c45
    try clear c47
    try clear c48
    try clear c50
    try clear c51
    try clear c52
    try clear c53
    try clear c55
    try clear c56
    try clear c59
    try clear c60
    try clear c61
    try clear c63
    try clear c64
    try clear hcz17_0
    try clear hcz17_1
    try clear hcz17_2
    try clear hcz19_0
    try clear hcz19_1
    try clear hcz19_2
    try clear hcz28_0
    try clear hcz28_1
    try clear hcz28_2
    try clear hcz31_0
    try clear hcz31_1
    try clear hcz31_2
    try clear hcz37_0
    try clear hcz37_1
    try clear hcz37_2
    try clear hcz46_0
    try clear hcz46_1
    try clear hcz46_2
    try clear hcz54_0
    try clear hcz54_1
    try clear hcz54_2
    try clear hcz57_0
    try clear hcz57_1
    try clear hcz57_2
    try clear hcz62_0
    try clear hcz62_1
    try clear hcz62_2
    try clear hcz65_0
    try clear hcz65_1
    try clear hcz65_2
    try clear hcz9_0
    try clear hcz9_1
    try clear hcz9_2
    try clear hfz17_0
    try clear hfz17_1
    try clear hfz17_2
    try clear hfz19_0
    try clear hfz19_1
    try clear hfz19_2
    try clear hfz28_0
    try clear hfz28_1
    try clear hfz28_2
    try clear hfz31_0
    try clear hfz31_1
    try clear hfz31_2
    try clear hfz37_0
    try clear hfz37_1
    try clear hfz37_2
    try clear hfz46_0
    try clear hfz46_1
    try clear hfz46_2
    try clear hfz54_0
    try clear hfz54_1
    try clear hfz54_2
    try clear hfz57_0
    try clear hfz57_1
    try clear hfz57_2
    try clear hfz62_0
    try clear hfz62_1
    try clear hfz62_2
    try clear hfz65_0
    try clear hfz65_1
    try clear hfz65_2
    try clear hfz9_0
    try clear hfz9_1
    try clear hfz9_2
    obtain ⟨kq, x51_14, rfl, HA, HJ14, HO_1294000, HO_1294001, HO_1294002, HO_1304000, HO_1304001, HO_1304002, HO_1315000, HO_1315001, HO_1315002, BK1272, BK1293, BK1303, BK1314, HB⟩ := hcut
    cases kq with
    | zero => exact absurd HA.out (by simp [laws_FnExactReplaceItem.j0])
    | succ kj14 =>
     have H := HA.out
     clear HA
     simp only [laws_FnExactReplaceItem.j0] at H
     by_cases c67 : x51_14 = true
     ·subst c67
      have H1 : (none) = some r := by rw [if_pos rfl] at H; exact H
      clear H
      have H := H1
      clear H1
      exact absurd H (by simp)
     ·replace c67 := Bool.eq_false_iff.mpr c67
      subst c67
      have H1 : ((laws_toDesk.f kj14 l0_0 l0_1 l0_2).bind fun bt1316 => ((laws_eqDesk.f kj14 t1294 t1297 t1300 bt1316.1 bt1316.2.1 bt1316.2.2).bind fun t1325 => (if t1325 = true then ((laws_markDesk.f kj14 t1294 t1297 t1300 1).bind fun bt1326 => (if bt1326.1 < 0 then (laws_FnExactReplaceItem.j1 kj14 a1 a2 t1292 true l0_0 l0_1 l0_2 t1283 t1286 t1289 t1304 t1307 t1310) else ((laws_eqDesk.f kj14 t1304 t1307 t1310 t1283 t1286 t1289).bind fun t1330 => (if t1330 = true then (laws_FnExactReplaceItem.j1 kj14 a1 a2 t1292 (t1313 != t1292) l0_0 l0_1 l0_2 t1283 t1286 t1289 t1304 t1307 t1310) else (laws_FnExactReplaceItem.j1 kj14 a1 a2 t1292 true l0_0 l0_1 l0_2 t1283 t1286 t1289 t1304 t1307 t1310))))) else (none)))) = some r := by rw [if_neg (show ¬ (false = true) by decide)] at H; exact H
      clear H
      have H := H1
      clear H1
      replace H := Option.bind_eq_some_iff.mp H
      obtain ⟨⟨t1316, t1319, t1322⟩, A680, H⟩ := H
      try dsimp only at H
      have A68 := Aside0.mk A680
      clear A680
      replace H := Option.bind_eq_some_iff.mp H
      obtain ⟨t1325, A690, H⟩ := H
      try dsimp only at H
      have A69 := Aside0.mk A690
      clear A690
      by_cases c70 : t1325 = true
      ·subst c70
       have H1 : ((laws_markDesk.f kj14 t1294 t1297 t1300 1).bind fun bt1326 => (if bt1326.1 < 0 then (laws_FnExactReplaceItem.j1 kj14 a1 a2 t1292 true l0_0 l0_1 l0_2 t1283 t1286 t1289 t1304 t1307 t1310) else ((laws_eqDesk.f kj14 t1304 t1307 t1310 t1283 t1286 t1289).bind fun t1330 => (if t1330 = true then (laws_FnExactReplaceItem.j1 kj14 a1 a2 t1292 (t1313 != t1292) l0_0 l0_1 l0_2 t1283 t1286 t1289 t1304 t1307 t1310) else (laws_FnExactReplaceItem.j1 kj14 a1 a2 t1292 true l0_0 l0_1 l0_2 t1283 t1286 t1289 t1304 t1307 t1310))))) = some r := by rw [if_pos rfl] at H; exact H
       clear H
       have H := H1
       clear H1
       replace H := Option.bind_eq_some_iff.mp H
       obtain ⟨⟨t1326, t1327, t1328, t1329⟩, A710, H⟩ := H
       try dsimp only at H
       have A71 := Aside0.mk A710
       clear A710
       have HC72 := Aside0.mk H
       clear H
       try go_wp2
       have n0_ := Aside0.mk (Kd.R_drew HO_1294000.out)
       have n1_ := Aside0.mk (Kd.R_drew HO_1294001.out)
       have n2_ := Aside0.mk (Kd.R_drew HO_1294002.out)
       have n3_ := Aside0.mk (Kd.R_drew HO_1304000.out)
       have n4_ := Aside0.mk (Kd.R_drew HO_1304001.out)
       have n5_ := Aside0.mk (Kd.R_drew HO_1304002.out)
       have n6_ := Aside0.mk (Kd.R_drew HO_1315000.out)
       have n7_ := Aside0.mk (Kd.R_drew HO_1315001.out)
       have n8_ := Aside0.mk (Kd.R_drew HO_1315002.out)
       have n9_ := Aside0.mk (blk_drew BK1272.out)
       have n10_ := Aside0.mk (blk_drew BK1293.out)
       have n11_ := Aside0.mk (blk_drew BK1303.out)
       have n12_ := Aside0.mk (blk_drew BK1314.out)
       have n13_ := Aside0.mk (below_drew1 HB.out)
       clear HO_1294000
       clear HO_1294001
       clear HO_1294002
       clear HO_1304000
       clear HO_1304001
       clear HO_1304002
       clear HO_1315000
       clear HO_1315001
       clear HO_1315002
       clear BK1272
       clear BK1293
       clear BK1303
       clear BK1314
       clear HB
       have HO_1294000 := n0_
       have HO_1294001 := n1_
       have HO_1294002 := n2_
       have HO_1304000 := n3_
       have HO_1304001 := n4_
       have HO_1304002 := n5_
       have HO_1315000 := n6_
       have HO_1315001 := n7_
       have HO_1315002 := n8_
       have BK1272 := n9_
       have BK1293 := n10_
       have BK1303 := n11_
       have BK1314 := n12_
       have HB := n13_
       clear n0_ n1_ n2_ n3_ n4_ n5_ n6_ n7_ n8_ n9_ n10_ n11_ n12_ n13_
       refine start_ (n := 5) (S := fun w' => w'.cell? ⟨gb1303, 0, none⟩ = some (.slice Ao34 t1294.length co34) ∧ w'.cell? ⟨gb1303, 1, none⟩ = some (.slice Ao38 t1297.length co38) ∧ w'.cell? ⟨gb1303, 2, none⟩ = some (.slice Ao39 t1300.length co39) ∧ w'.cell? ⟨gb1272, 0, none⟩ = some (.slice A0_0 l0_0.length c0_0) ∧ w'.cell? ⟨gb1272, 1, none⟩ = some (.slice A0_1 l0_1.length c0_1) ∧ w'.cell? ⟨gb1272, 2, none⟩ = some (.slice A0_2 l0_2.length c0_2)) (ds := []) #[false, false, false, false, false] (by kernel_rfl) rfl rfl ⟨(blk_cell BK1303.out 0).trans rfl, (blk_cell BK1303.out 1).trans rfl, (blk_cell BK1303.out 2).trans rfl, (blk_cell BK1272.out 0).trans rfl, (blk_cell BK1272.out 1).trans rfl, (blk_cell BK1272.out 2).trans rfl⟩ (fun hHeld => ?_)
       generalize wc.drew = w73 at HO_1294000 HO_1294001 HO_1294002 HO_1304000 HO_1304001 HO_1304002 HO_1315000 HO_1315001 HO_1315002 BK1272 BK1293 BK1303 BK1314 HB hHeld ⊢
       refine take_ (i := 0) (N := some 52) (v := ?_) (a' := ?_) #[true, false, false, false, false] rfl rfl (by kernel_rfl) (fun _ _ _ h => h) (Or.inl ⟨by rfl, ?_⟩) hHeld ?_ ?_
       rotate_left
       ·rintro w' ⟨s0, s1, s2, s3, s4, s5⟩
        go_simp
        with_reducible rfl
       rotate_left
       ·simp only [Act.put, sA_, sB_, sC_, i64_w, i32_w]
        rfl
       refine take_ (i := 1) (N := some 53) (v := ?_) (a' := ?_) #[true, true, false, false, false] rfl rfl (by kernel_rfl) (fun _ _ _ h => h) (Or.inl ⟨by rfl, ?_⟩) hHeld ?_ ?_
       rotate_left
       ·rintro w' ⟨s0, s1, s2, s3, s4, s5⟩
        go_simp
        with_reducible rfl
       rotate_left
       ·simp only [Act.put, sA_, sB_, sC_, i64_w, i32_w]
        rfl
       refine one_ (i := 2) (N := some 54) #[true, true, true, false, false] rfl rfl (by kernel_rfl) (by decide) (fun K hK => ?_)
       refine goes_ Try.func30 (by kernel_rfl) rfl #[.agg #[.slice A0_0 l0_0.length c0_0, .slice A0_1 l0_1.length c0_1, .slice A0_2 l0_2.length c0_2]] (by rfl) rfl rfl args_ ?_
       with_reducible refine (laws_toDesk.calls kj14 _ _ l0_0 _ _ l0_1 _ _ l0_2 t1316 t1319 t1322 _ ?side1 ?side2 ?side3 ?side4 ?side5 ?side6 A68.out).mono ?_
       (case side1 => exact cb_ HR0_0 HB)
       (case side2 => exact HC0_0.out)
       (case side3 => exact cb_ HR0_1 HB)
       (case side4 => exact HC0_1.out)
       (case side5 => exact cb_ HR0_2 HB)
       (case side6 => exact HC0_2.out)
       rintro e w74 ⟨v1317, v1320, v1323, rfl, ho0, ho1, ho2, hb⟩
       refine ⟨_, rfl, ?_⟩
       have n0_ := Aside0.mk (Kd.R_elder' (ra_ HO_1294000) (Kd.R_base ho0) hb)
       have n1_ := Aside0.mk (Kd.R_mono (Kd.R_told (Kd.R_told (Kd.R_old (ra_ HO_1294001) hb) (Kd.R_base ho1)) (Kd.R_base ho2)) (fun _ h_ => h_.1))
       have n2_ := Aside0.mk (Kd.R_mono (Kd.R_told (Kd.R_told (Kd.R_old (ra_ HO_1294002) hb) (Kd.R_base ho1)) (Kd.R_base ho2)) (fun _ h_ => h_.1))
       have n3_ := Aside0.mk (Kd.R_elder' (ra_ HO_1304000) (Kd.R_base ho0) hb)
       have n4_ := Aside0.mk (Kd.R_mono (Kd.R_told (Kd.R_told (Kd.R_old (ra_ HO_1304001) hb) (Kd.R_base ho1)) (Kd.R_base ho2)) (fun _ h_ => h_.1))
       have n5_ := Aside0.mk (Kd.R_mono (Kd.R_told (Kd.R_told (Kd.R_old (ra_ HO_1304002) hb) (Kd.R_base ho1)) (Kd.R_base ho2)) (fun _ h_ => h_.1))
       have n6_ := Aside0.mk (Kd.R_elder' (ra_ HO_1315000) (Kd.R_base ho0) hb)
       have n7_ := Aside0.mk (Kd.R_mono (Kd.R_told (Kd.R_told (Kd.R_old (ra_ HO_1315001) hb) (Kd.R_base ho1)) (Kd.R_base ho2)) (fun _ h_ => h_.1))
       have n8_ := Aside0.mk (Kd.R_mono (Kd.R_told (Kd.R_told (Kd.R_old (ra_ HO_1315002) hb) (Kd.R_base ho1)) (Kd.R_base ho2)) (fun _ h_ => h_.1))
       have n9_ := Aside0.mk (Kd.R_lower (Kd.R_new' (Kd.R_new' (Kd.R_new' ho0 (Kd.R_lt (ra_ HO_1294000))) (Kd.R_lt (ra_ HO_1304000))) (Kd.R_lt (ra_ HO_1315000))) (below_size (bb4_ HB GE1272 GE1293 GE1303 GE1314)))
       have n10_ := Aside0.mk (Kd.R_lower (Kd.R_new' (Kd.R_new' (Kd.R_new' (Kd.R_new' (Kd.R_new' (Kd.R_new' ho1 (Kd.R_lt (ra_ HO_1294001))) (Kd.R_lt (ra_ HO_1294002))) (Kd.R_lt (ra_ HO_1304001))) (Kd.R_lt (ra_ HO_1304002))) (Kd.R_lt (ra_ HO_1315001))) (Kd.R_lt (ra_ HO_1315002))) (below_size (bb4_ HB GE1272 GE1293 GE1303 GE1314)))
       have n11_ := Aside0.mk (Kd.R_lower (Kd.R_new' (Kd.R_new' (Kd.R_new' (Kd.R_new' (Kd.R_new' (Kd.R_new' ho2 (Kd.R_lt (ra_ HO_1294001))) (Kd.R_lt (ra_ HO_1294002))) (Kd.R_lt (ra_ HO_1304001))) (Kd.R_lt (ra_ HO_1304002))) (Kd.R_lt (ra_ HO_1315001))) (Kd.R_lt (ra_ HO_1315002))) (below_size (bb4_ HB GE1272 GE1293 GE1303 GE1314)))
       have n12_ := Aside0.mk (lb_ BK1272 hb)
       have n13_ := Aside0.mk (lb_ BK1293 hb)
       have n14_ := Aside0.mk (lb_ BK1303 hb)
       have n15_ := Aside0.mk (lb_ BK1314 hb)
       have n16_ := Aside0.mk (below_step (bb4_ HB GE1272 GE1293 GE1303 GE1314) hb)
       clear HO_1294000
       clear HO_1294001
       clear HO_1294002
       clear HO_1304000
       clear HO_1304001
       clear HO_1304002
       clear HO_1315000
       clear HO_1315001
       clear HO_1315002
       clear BK1272
       clear BK1293
       clear BK1303
       clear BK1314
       clear HB
       have HO_1294000 := n0_
       have HO_1294001 := n1_
       have HO_1294002 := n2_
       have HO_1304000 := n3_
       have HO_1304001 := n4_
       have HO_1304002 := n5_
       have HO_1315000 := n6_
       have HO_1315001 := n7_
       have HO_1315002 := n8_
       have HO1318 := n9_
       have HO1321 := n10_
       have HO1324 := n11_
       have BK1272 := n12_
       have BK1293 := n13_
       have BK1303 := n14_
       have BK1314 := n15_
       have HB := n16_
       clear n0_ n1_ n2_ n3_ n4_ n5_ n6_ n7_ n8_ n9_ n10_ n11_ n12_ n13_ n14_ n15_ n16_
       (try clear hb)
       (try clear hb2)
       (try clear hk)
       (try clear hi)
       (try clear ho0)
       (try clear ho1)
       (try clear ho2)
       obtain ⟨Ao75, co75, eo75⟩ := Kd.R_slice HO1318.out
       (first | subst eo75 | (injection eo75 with f1_ f2_ f3_; have f4_ := f1_.symm; have f5_ := f3_.symm; clear f1_ f2_ f3_; subst f4_; subst f5_))
       obtain ⟨Ao76, co76, eo76⟩ := Kd.R_slice HO1321.out
       (first | subst eo76 | (injection eo76 with f1_ f2_ f3_; have f4_ := f1_.symm; have f5_ := f3_.symm; clear f1_ f2_ f3_; subst f4_; subst f5_))
       obtain ⟨Ao77, co77, eo77⟩ := Kd.R_slice HO1324.out
       (first | subst eo77 | (injection eo77 with f1_ f2_ f3_; have f4_ := f1_.symm; have f5_ := f3_.symm; clear f1_ f2_ f3_; subst f4_; subst f5_))
       refine hK.out _ _ ⟨(blk_cell BK1303.out 0).trans rfl, (blk_cell BK1303.out 1).trans rfl, (blk_cell BK1303.out 2).trans rfl, (blk_cell BK1272.out 0).trans rfl, (blk_cell BK1272.out 1).trans rfl, (blk_cell BK1272.out 2).trans rfl⟩ (fun hHeld => ?_)
       clear hK K
       refine norm_ (a' := ?_) ?_ ?_
       rotate_left
       ·show Act.put _ (some 54) _ = _
        simp only [Act.put, sA_, sB_, sC_, i64_w, i32_w]
        rfl
       refine one_ (i := 3) (N := some 55) #[true, true, true, true, false] rfl rfl (by kernel_rfl) (by decide) (fun K hK => ?_)
       refine goes_ Try.func23 (by kernel_rfl) rfl #[.agg #[.slice Ao34 t1294.length co34, .slice Ao38 t1297.length co38, .slice Ao39 t1300.length co39], .agg #[.slice Ao75 t1316.length co75, .slice Ao76 t1319.length co76, .slice Ao77 t1322.length co77]] (by rfl) rfl rfl args_ ?_
       with_reducible refine (laws_eqDesk.calls kj14 _ _ t1294 _ _ t1297 _ _ t1300 _ _ t1316 _ _ t1319 _ _ t1322 true _ ?side1 ?side2 ?side3 ?side4 ?side5 ?side6 ?side7 ?side8 ?side9 ?side10 ?side11 ?side12 A69.out).mono ?_
       (case side1 => exact cr_ HO_1304000)
       (case side2 => exact (Kd.R_reads' HO_1304000.out).2.1)
       (case side3 => exact cr_ HO_1304001)
       (case side4 => exact (Kd.R_reads' HO_1304001.out).2.1)
       (case side5 => exact cr_ HO_1304002)
       (case side6 => exact (Kd.R_reads' HO_1304002.out).2.1)
       (case side7 => exact cr_ HO1318)
       (case side8 => exact (Kd.R_reads' HO1318.out).2.1)
       (case side9 => exact cr_ HO1321)
       (case side10 => exact (Kd.R_reads' HO1321.out).2.1)
       (case side11 => exact cr_ HO1324)
       (case side12 => exact (Kd.R_reads' HO1324.out).2.1)
       rintro e w78 ⟨rfl, hb⟩
       refine ⟨_, rfl, ?_⟩
       have n0_ := Aside0.mk (Kd.R_below (ra_ HO_1294000) hb)
       have n1_ := Aside0.mk (Kd.R_below (ra_ HO_1294001) hb)
       have n2_ := Aside0.mk (Kd.R_below (ra_ HO_1294002) hb)
       have n3_ := Aside0.mk (Kd.R_below (ra_ HO_1304000) hb)
       have n4_ := Aside0.mk (Kd.R_below (ra_ HO_1304001) hb)
       have n5_ := Aside0.mk (Kd.R_below (ra_ HO_1304002) hb)
       have n6_ := Aside0.mk (Kd.R_below (ra_ HO_1315000) hb)
       have n7_ := Aside0.mk (Kd.R_below (ra_ HO_1315001) hb)
       have n8_ := Aside0.mk (Kd.R_below (ra_ HO_1315002) hb)
       have n9_ := Aside0.mk (Kd.R_below (ra_ HO1318) hb)
       have n10_ := Aside0.mk (Kd.R_below (ra_ HO1321) hb)
       have n11_ := Aside0.mk (Kd.R_below (ra_ HO1324) hb)
       have n12_ := Aside0.mk (lb_ BK1272 hb)
       have n13_ := Aside0.mk (lb_ BK1293 hb)
       have n14_ := Aside0.mk (lb_ BK1303 hb)
       have n15_ := Aside0.mk (lb_ BK1314 hb)
       have n16_ := Aside0.mk (below_step (bb4_ HB GE1272 GE1293 GE1303 GE1314) hb)
       clear HO_1294000
       clear HO_1294001
       clear HO_1294002
       clear HO_1304000
       clear HO_1304001
       clear HO_1304002
       clear HO_1315000
       clear HO_1315001
       clear HO_1315002
       clear HO1318
       clear HO1321
       clear HO1324
       clear BK1272
       clear BK1293
       clear BK1303
       clear BK1314
       clear HB
       have HO_1294000 := n0_
       have HO_1294001 := n1_
       have HO_1294002 := n2_
       have HO_1304000 := n3_
       have HO_1304001 := n4_
       have HO_1304002 := n5_
       have HO_1315000 := n6_
       have HO_1315001 := n7_
       have HO_1315002 := n8_
       have HO1318 := n9_
       have HO1321 := n10_
       have HO1324 := n11_
       have BK1272 := n12_
       have BK1293 := n13_
       have BK1303 := n14_
       have BK1314 := n15_
       have HB := n16_
       clear n0_ n1_ n2_ n3_ n4_ n5_ n6_ n7_ n8_ n9_ n10_ n11_ n12_ n13_ n14_ n15_ n16_
       (try clear hb)
       (try clear hb2)
       (try clear hk)
       (try clear hi)
       refine hK.out _ _ ⟨(blk_cell BK1303.out 0).trans rfl, (blk_cell BK1303.out 1).trans rfl, (blk_cell BK1303.out 2).trans rfl, (blk_cell BK1272.out 0).trans rfl, (blk_cell BK1272.out 1).trans rfl, (blk_cell BK1272.out 2).trans rfl⟩ (fun hHeld => ?_)
       clear hK K
       refine norm_ (a' := ?_) ?_ ?_
       rotate_left
       ·show Act.put _ (some 55) _ = _
        simp only [Act.put, sA_, sB_, sC_, i64_w, i32_w]
        rfl
       refine pure_ (i := 4) (N := some 56) (v := ?_) (a' := ?_) #[true, true, true, true, true] rfl rfl (by kernel_rfl) (fun _ _ _ h => h) (Or.inl ⟨by rfl, ?_⟩) ?_ ?_
       rotate_left
       ·intro w'
        go_simp
        with_reducible rfl
       rotate_left
       ·simp only [Act.put, sA_, sB_, sC_, i64_w, i32_w]
        rfl
       refine done_ (by kernel_rfl) ?_
       have hnb79 := NB1303_1272.out
       have hnc79 := NB1272_1303.out
       have hnb80 := NB1303_1293.out
       have hnc80 := NB1293_1303.out
       have hnb81 := NB1303_1314.out
       have hnc81 := NB1314_1303.out
       have hcz82_0 := cz0_ BK1303
       have hcz82_1 := cz1_ BK1303
       have hcz82_2 := cz2_ BK1303
       have hfz82_0 := fz_ BK1303 0
       have hfz82_1 := fz_ BK1303 1
       have hfz82_2 := fz_ BK1303 2
       go_upto_region 16 with (first | ((with_reducible refine gate_callee (f := 26) rfl ?_); refine goesL_ (some 59) rfl rfl Try.func26 (by kernel_rfl) rfl #[.agg #[.slice Ao34 t1294.length co34, .slice Ao38 t1297.length co38, .slice Ao39 t1300.length co39], .int .i64 1] rfl args_ ?_; (with_reducible refine (laws_markDesk.calls kj14 (fun k_ => some k_ = (.slice Ao34 t1294.length co34 : Value).ownBlock) (.slice Ao34 t1294.length co34) t1294 (fun k_ => some k_ = (.slice Ao38 t1297.length co38 : Value).ownBlock) (.slice Ao38 t1297.length co38) t1297 (fun k_ => some k_ = (.slice Ao39 t1300.length co39 : Value).ownBlock) (.slice Ao39 t1300.length co39) t1300 1 t1326 t1327 t1328 t1329 w _ ?side1 ?side2 ?side3 ?side4 ?side5 ?side6 A71.out).mono ?_); (case side1 => repeat (first | (with_reducible first | exact HB.out | apply bA_ | apply bN_ | apply bD_ | refine bS_ ?_ GE1272.out | refine bS_ ?_ GE1293.out | refine bS_ ?_ GE1303.out | refine bS_ ?_ GE1314.out) | exact HB.out)); (case side2 => exact Kd.R_tight rfl HO_1304000.out); (case side3 => exact Kd.R_tight rfl HO_1304001.out); (case side4 => exact fun k_ e_ => (HO_1304001.out.1 k_ e_.symm).1.1.2.2.1); (case side5 => exact Kd.R_tight rfl HO_1304002.out); (case side6 => exact fun k_ e_ => (HO_1304002.out.1 k_ e_.symm).1.1.2.2.1); rintro e w83 ⟨rfl, hy0, hy1, hy2, hb, hkp⟩; refine ⟨_, rfl, ?_⟩; have n0_ := Aside0.mk (Kd.R_mono (ok' := fun k_ => some k_ ≠ (.slice Ao34 t1294.length co34 : Value).ownBlock ∧ some k_ ≠ (.slice Ao42 t1304.length co42 : Value).ownBlock ∧ some k_ ≠ (.slice Ao75 t1316.length co75 : Value).ownBlock) (Kd.R_keptB ((Kd.R_apart' (Kd.R_apart' HO_1294000.out (Kd.R_typed HO_1304001.out) (by decide)) (Kd.R_typed HO_1304002.out) (by decide))) hkp (fun k_ hk_ hs_ => Or.elim hs_ (fun e_ => (hk_.1.1.1.1) e_) (fun e_ => Or.elim e_ (fun e_ => (hk_.1.2) e_) (fun e_ => (hk_.2) e_)))) (fun k_ hk_ => ⟨hk_.1.1.1.1.1, hk_.1.1.1.1.2, hk_.1.1.1.2⟩)); have n1_ := Aside0.mk (Kd.R_mono (ok' := fun k_ => some k_ ≠ (.slice Ao30 t1289.length co30 : Value).ownBlock ∧ some k_ ≠ (.slice Ao38 t1297.length co38 : Value).ownBlock ∧ some k_ ≠ (.slice Ao39 t1300.length co39 : Value).ownBlock ∧ some k_ ≠ (.slice Ao47 t1307.length co47 : Value).ownBlock ∧ some k_ ≠ (.slice Ao48 t1310.length co48 : Value).ownBlock ∧ some k_ ≠ (.slice Ao76 t1319.length co76 : Value).ownBlock ∧ some k_ ≠ (.slice Ao77 t1322.length co77 : Value).ownBlock) (Kd.R_keptB ((Kd.R_apart' HO_1294001.out (Kd.R_typed HO_1304000.out) (by decide))) hkp (fun k_ hk_ hs_ => Or.elim hs_ (fun e_ => (hk_.2) e_) (fun e_ => Or.elim e_ (fun e_ => (hk_.1.1.1.2.1) e_) (fun e_ => (hk_.1.1.1.2.2.1) e_)))) (fun k_ hk_ => ⟨hk_.1.1.1.1.1, hk_.1.1.1.1.2.1, hk_.1.1.1.1.2.2.1, hk_.1.1.1.1.2.2.2.1, hk_.1.1.1.1.2.2.2.2, hk_.1.1.1.2, hk_.1.1.2⟩)); have n2_ := Aside0.mk (Kd.R_mono (ok' := fun k_ => some k_ ≠ (.slice Ao29 t1286.length co29 : Value).ownBlock ∧ some k_ ≠ (.slice Ao38 t1297.length co38 : Value).ownBlock ∧ some k_ ≠ (.slice Ao39 t1300.length co39 : Value).ownBlock ∧ some k_ ≠ (.slice Ao47 t1307.length co47 : Value).ownBlock ∧ some k_ ≠ (.slice Ao48 t1310.length co48 : Value).ownBlock ∧ some k_ ≠ (.slice Ao76 t1319.length co76 : Value).ownBlock ∧ some k_ ≠ (.slice Ao77 t1322.length co77 : Value).ownBlock) (Kd.R_keptB ((Kd.R_apart' HO_1294002.out (Kd.R_typed HO_1304000.out) (by decide))) hkp (fun k_ hk_ hs_ => Or.elim hs_ (fun e_ => (hk_.2) e_) (fun e_ => Or.elim e_ (fun e_ => (hk_.1.1.1.2.1) e_) (fun e_ => (hk_.1.1.1.2.2.1) e_)))) (fun k_ hk_ => ⟨hk_.1.1.1.1.1, hk_.1.1.1.1.2.1, hk_.1.1.1.1.2.2.1, hk_.1.1.1.1.2.2.2.1, hk_.1.1.1.1.2.2.2.2, hk_.1.1.1.2, hk_.1.1.2⟩)); have n3_ := Aside0.mk (Kd.R_reok rfl hy0 (fun k_ e_ => HO_1304000.out.1 k_ e_)); have n4_ := Aside0.mk (Kd.R_reok rfl hy1 (fun k_ e_ => HO_1304001.out.1 k_ e_)); have n5_ := Aside0.mk (Kd.R_reok rfl hy2 (fun k_ e_ => HO_1304002.out.1 k_ e_)); have n6_ := Aside0.mk (Kd.R_mono (ok' := fun k_ => some k_ ≠ (.slice Ao26 t1283.length co26 : Value).ownBlock ∧ some k_ ≠ (.slice Ao34 t1294.length co34 : Value).ownBlock ∧ some k_ ≠ (.slice Ao75 t1316.length co75 : Value).ownBlock) (Kd.R_keptB ((Kd.R_apart' (Kd.R_apart' HO_1315000.out (Kd.R_typed HO_1304001.out) (by decide)) (Kd.R_typed HO_1304002.out) (by decide))) hkp (fun k_ hk_ hs_ => Or.elim hs_ (fun e_ => (hk_.1.1.1.2) e_) (fun e_ => Or.elim e_ (fun e_ => (hk_.1.2) e_) (fun e_ => (hk_.2) e_)))) (fun k_ hk_ => ⟨hk_.1.1.1.1.1, hk_.1.1.1.1.2, hk_.1.1.1.2⟩)); have n7_ := Aside0.mk (Kd.R_mono (ok' := fun k_ => some k_ ≠ (.slice Ao29 t1286.length co29 : Value).ownBlock ∧ some k_ ≠ (.slice Ao30 t1289.length co30 : Value).ownBlock ∧ some k_ ≠ (.slice Ao38 t1297.length co38 : Value).ownBlock ∧ some k_ ≠ (.slice Ao39 t1300.length co39 : Value).ownBlock ∧ some k_ ≠ (.slice Ao48 t1310.length co48 : Value).ownBlock ∧ some k_ ≠ (.slice Ao76 t1319.length co76 : Value).ownBlock ∧ some k_ ≠ (.slice Ao77 t1322.length co77 : Value).ownBlock) (Kd.R_keptB ((Kd.R_apart' HO_1315001.out (Kd.R_typed HO_1304000.out) (by decide))) hkp (fun k_ hk_ hs_ => Or.elim hs_ (fun e_ => (hk_.2) e_) (fun e_ => Or.elim e_ (fun e_ => (hk_.1.1.1.2.2.1) e_) (fun e_ => (hk_.1.1.1.2.2.2.1) e_)))) (fun k_ hk_ => ⟨hk_.1.1.1.1.1, hk_.1.1.1.1.2.1, hk_.1.1.1.1.2.2.1, hk_.1.1.1.1.2.2.2.1, hk_.1.1.1.1.2.2.2.2, hk_.1.1.1.2, hk_.1.1.2⟩)); have n8_ := Aside0.mk (Kd.R_mono (ok' := fun k_ => some k_ ≠ (.slice Ao29 t1286.length co29 : Value).ownBlock ∧ some k_ ≠ (.slice Ao30 t1289.length co30 : Value).ownBlock ∧ some k_ ≠ (.slice Ao38 t1297.length co38 : Value).ownBlock ∧ some k_ ≠ (.slice Ao39 t1300.length co39 : Value).ownBlock ∧ some k_ ≠ (.slice Ao47 t1307.length co47 : Value).ownBlock ∧ some k_ ≠ (.slice Ao76 t1319.length co76 : Value).ownBlock ∧ some k_ ≠ (.slice Ao77 t1322.length co77 : Value).ownBlock) (Kd.R_keptB ((Kd.R_apart' HO_1315002.out (Kd.R_typed HO_1304000.out) (by decide))) hkp (fun k_ hk_ hs_ => Or.elim hs_ (fun e_ => (hk_.2) e_) (fun e_ => Or.elim e_ (fun e_ => (hk_.1.1.1.2.2.1) e_) (fun e_ => (hk_.1.1.1.2.2.2.1) e_)))) (fun k_ hk_ => ⟨hk_.1.1.1.1.1, hk_.1.1.1.1.2.1, hk_.1.1.1.1.2.2.1, hk_.1.1.1.1.2.2.2.1, hk_.1.1.1.1.2.2.2.2, hk_.1.1.1.2, hk_.1.1.2⟩)); have n9_ := Aside0.mk (blk_kept (la_ BK1272) hkp (fun hs_ => Or.elim hs_ (fun e_ => (fun e_ => (Kd.R_ne HO_1304000.out BK1272.out (by decide)) e_) e_) (fun e_ => Or.elim e_ (fun e_ => (fun e_ => (Kd.R_ne HO_1304001.out BK1272.out (by decide)) e_) e_) (fun e_ => (fun e_ => (Kd.R_ne HO_1304002.out BK1272.out (by decide)) e_) e_)))); have n10_ := Aside0.mk (blk_kept (la_ BK1293) hkp (fun hs_ => Or.elim hs_ (fun e_ => (fun e_ => (Kd.R_ne HO_1304000.out BK1293.out (by decide)) e_) e_) (fun e_ => Or.elim e_ (fun e_ => (fun e_ => (Kd.R_ne HO_1304001.out BK1293.out (by decide)) e_) e_) (fun e_ => (fun e_ => (Kd.R_ne HO_1304002.out BK1293.out (by decide)) e_) e_)))); have n11_ := Aside0.mk (blk_kept (la_ BK1303) hkp (fun hs_ => Or.elim hs_ (fun e_ => (fun e_ => (Kd.R_ne HO_1304000.out BK1303.out (by decide)) e_) e_) (fun e_ => Or.elim e_ (fun e_ => (fun e_ => (Kd.R_ne HO_1304001.out BK1303.out (by decide)) e_) e_) (fun e_ => (fun e_ => (Kd.R_ne HO_1304002.out BK1303.out (by decide)) e_) e_)))); have n12_ := Aside0.mk (blk_kept (la_ BK1314) hkp (fun hs_ => Or.elim hs_ (fun e_ => (fun e_ => (Kd.R_ne HO_1304000.out BK1314.out (by decide)) e_) e_) (fun e_ => Or.elim e_ (fun e_ => (fun e_ => (Kd.R_ne HO_1304001.out BK1314.out (by decide)) e_) e_) (fun e_ => (fun e_ => (Kd.R_ne HO_1304002.out BK1314.out (by decide)) e_) e_)))); have n13_ := Aside0.mk (Kd.R_mono (ok' := fun k_ => some k_ ≠ (.slice Ao26 t1283.length co26 : Value).ownBlock ∧ some k_ ≠ (.slice Ao34 t1294.length co34 : Value).ownBlock ∧ some k_ ≠ (.slice Ao42 t1304.length co42 : Value).ownBlock) (Kd.R_keptB ((Kd.R_apart' (Kd.R_apart' HO1318.out (Kd.R_typed HO_1304001.out) (by decide)) (Kd.R_typed HO_1304002.out) (by decide))) hkp (fun k_ hk_ hs_ => Or.elim hs_ (fun e_ => (hk_.1.1.1.2) e_) (fun e_ => Or.elim e_ (fun e_ => (hk_.1.2) e_) (fun e_ => (hk_.2) e_)))) (fun k_ hk_ => ⟨hk_.1.1.1.1.1.2, hk_.1.1.1.1.2, hk_.1.1.1.2⟩)); have n14_ := Aside0.mk (Kd.R_mono (ok' := fun k_ => some k_ ≠ (.slice Ao29 t1286.length co29 : Value).ownBlock ∧ some k_ ≠ (.slice Ao30 t1289.length co30 : Value).ownBlock ∧ some k_ ≠ (.slice Ao38 t1297.length co38 : Value).ownBlock ∧ some k_ ≠ (.slice Ao39 t1300.length co39 : Value).ownBlock ∧ some k_ ≠ (.slice Ao47 t1307.length co47 : Value).ownBlock ∧ some k_ ≠ (.slice Ao48 t1310.length co48 : Value).ownBlock ∧ some k_ ≠ (.slice Ao77 t1322.length co77 : Value).ownBlock) (Kd.R_keptB ((Kd.R_apart' HO1321.out (Kd.R_typed HO_1304000.out) (by decide))) hkp (fun k_ hk_ hs_ => Or.elim hs_ (fun e_ => (hk_.2) e_) (fun e_ => Or.elim e_ (fun e_ => (hk_.1.1.1.1.2) e_) (fun e_ => (hk_.1.1.1.2) e_)))) (fun k_ hk_ => ⟨hk_.1.1.1.1.1.1.1.2, hk_.1.1.1.1.1.1.2, hk_.1.1.1.1.1.2, hk_.1.1.1.1.2, hk_.1.1.1.2, hk_.1.1.2, hk_.1.1.1.1.1.1.1.1⟩)); have n15_ := Aside0.mk (Kd.R_mono (ok' := fun k_ => some k_ ≠ (.slice Ao29 t1286.length co29 : Value).ownBlock ∧ some k_ ≠ (.slice Ao30 t1289.length co30 : Value).ownBlock ∧ some k_ ≠ (.slice Ao38 t1297.length co38 : Value).ownBlock ∧ some k_ ≠ (.slice Ao39 t1300.length co39 : Value).ownBlock ∧ some k_ ≠ (.slice Ao47 t1307.length co47 : Value).ownBlock ∧ some k_ ≠ (.slice Ao48 t1310.length co48 : Value).ownBlock ∧ some k_ ≠ (.slice Ao76 t1319.length co76 : Value).ownBlock) (Kd.R_keptB ((Kd.R_apart' HO1324.out (Kd.R_typed HO_1304000.out) (by decide))) hkp (fun k_ hk_ hs_ => Or.elim hs_ (fun e_ => (hk_.2) e_) (fun e_ => Or.elim e_ (fun e_ => (hk_.1.1.1.1.2) e_) (fun e_ => (hk_.1.1.1.2) e_)))) (fun k_ hk_ => ⟨hk_.1.1.1.1.1.1.1.2, hk_.1.1.1.1.1.1.2, hk_.1.1.1.1.1.2, hk_.1.1.1.1.2, hk_.1.1.1.2, hk_.1.1.2, hk_.1.1.1.1.1.1.1.1⟩)); have n16_ := Aside0.mk (hb); clear HO_1294000; clear HO_1294001; clear HO_1294002; clear HO_1304000; clear HO_1304001; clear HO_1304002; clear HO_1315000; clear HO_1315001; clear HO_1315002; clear BK1272; clear BK1293; clear BK1303; clear BK1314; clear HO1318; clear HO1321; clear HO1324; clear HB; have HO_1294000 := n0_; have HO_1294001 := n1_; have HO_1294002 := n2_; have HO_1304000 := n3_; have HO_1304001 := n4_; have HO_1304002 := n5_; have HO_1315000 := n6_; have HO_1315001 := n7_; have HO_1315002 := n8_; have BK1272 := n9_; have BK1293 := n10_; have BK1303 := n11_; have BK1314 := n12_; have HO1318 := n13_; have HO1321 := n14_; have HO1324 := n15_; have HB := n16_; clear n0_ n1_ n2_ n3_ n4_ n5_ n6_ n7_ n8_ n9_ n10_ n11_ n12_ n13_ n14_ n15_ n16_; (try clear hb); (try clear hkp); (try clear hy0); (try clear hy1); (try clear hy2)))
       (try simp only [Act.put, sA_, sB_, sC_])
       go_cut [72] (fun v72 wc => ∃ (kq : Nat) (x72_71 : Bool), v72 = .bool x72_71 ∧ Aside0 (laws_FnExactReplaceItem.j1 kq a1 a2 t1292 x72_71 l0_0 l0_1 l0_2 t1283 t1286 t1289 t1304 t1307 t1310 = some r) ∧ Aside0 (kq ≤ kj14) ∧ Aside0 (Kd.R Kd.string 9 wc w.heap.size (fun k_ => some k_ ≠ ((.slice Ao34 t1294.length co34) : Value).ownBlock ∧ some k_ ≠ ((.slice Ao42 t1304.length co42) : Value).ownBlock) (.slice Ao26 t1283.length co26) t1283) ∧ Aside0 (Kd.R k25 25 wc w.heap.size (fun k_ => some k_ ≠ ((.slice Ao30 t1289.length co30) : Value).ownBlock ∧ some k_ ≠ ((.slice Ao38 t1297.length co38) : Value).ownBlock ∧ some k_ ≠ ((.slice Ao39 t1300.length co39) : Value).ownBlock ∧ some k_ ≠ ((.slice Ao47 t1307.length co47) : Value).ownBlock ∧ some k_ ≠ ((.slice Ao48 t1310.length co48) : Value).ownBlock) (.slice Ao29 t1286.length co29) t1286) ∧ Aside0 (Kd.R k25 25 wc w.heap.size (fun k_ => some k_ ≠ ((.slice Ao29 t1286.length co29) : Value).ownBlock ∧ some k_ ≠ ((.slice Ao38 t1297.length co38) : Value).ownBlock ∧ some k_ ≠ ((.slice Ao39 t1300.length co39) : Value).ownBlock ∧ some k_ ≠ ((.slice Ao47 t1307.length co47) : Value).ownBlock ∧ some k_ ≠ ((.slice Ao48 t1310.length co48) : Value).ownBlock) (.slice Ao30 t1289.length co30) t1289) ∧ Aside0 (Kd.R Kd.string 9 wc w.heap.size (fun k_ => some k_ ≠ ((.slice Ao26 t1283.length co26) : Value).ownBlock ∧ some k_ ≠ ((.slice Ao42 t1304.length co42) : Value).ownBlock) (.slice Ao34 t1294.length co34) t1327) ∧ Aside0 (Kd.R k25 25 wc w.heap.size (fun k_ => some k_ ≠ ((.slice Ao29 t1286.length co29) : Value).ownBlock ∧ some k_ ≠ ((.slice Ao30 t1289.length co30) : Value).ownBlock ∧ some k_ ≠ ((.slice Ao39 t1300.length co39) : Value).ownBlock ∧ some k_ ≠ ((.slice Ao47 t1307.length co47) : Value).ownBlock ∧ some k_ ≠ ((.slice Ao48 t1310.length co48) : Value).ownBlock) (.slice Ao38 t1297.length co38) t1328) ∧ Aside0 (Kd.R k25 25 wc w.heap.size (fun k_ => some k_ ≠ ((.slice Ao29 t1286.length co29) : Value).ownBlock ∧ some k_ ≠ ((.slice Ao30 t1289.length co30) : Value).ownBlock ∧ some k_ ≠ ((.slice Ao38 t1297.length co38) : Value).ownBlock ∧ some k_ ≠ ((.slice Ao47 t1307.length co47) : Value).ownBlock ∧ some k_ ≠ ((.slice Ao48 t1310.length co48) : Value).ownBlock) (.slice Ao39 t1300.length co39) t1329) ∧ Aside0 (Kd.R Kd.string 9 wc w.heap.size (fun k_ => some k_ ≠ ((.slice Ao26 t1283.length co26) : Value).ownBlock ∧ some k_ ≠ ((.slice Ao34 t1294.length co34) : Value).ownBlock) (.slice Ao42 t1304.length co42) t1304) ∧ Aside0 (Kd.R k25 25 wc w.heap.size (fun k_ => some k_ ≠ ((.slice Ao29 t1286.length co29) : Value).ownBlock ∧ some k_ ≠ ((.slice Ao30 t1289.length co30) : Value).ownBlock ∧ some k_ ≠ ((.slice Ao38 t1297.length co38) : Value).ownBlock ∧ some k_ ≠ ((.slice Ao39 t1300.length co39) : Value).ownBlock ∧ some k_ ≠ ((.slice Ao48 t1310.length co48) : Value).ownBlock) (.slice Ao47 t1307.length co47) t1307) ∧ Aside0 (Kd.R k25 25 wc w.heap.size (fun k_ => some k_ ≠ ((.slice Ao29 t1286.length co29) : Value).ownBlock ∧ some k_ ≠ ((.slice Ao30 t1289.length co30) : Value).ownBlock ∧ some k_ ≠ ((.slice Ao38 t1297.length co38) : Value).ownBlock ∧ some k_ ≠ ((.slice Ao39 t1300.length co39) : Value).ownBlock ∧ some k_ ≠ ((.slice Ao47 t1307.length co47) : Value).ownBlock) (.slice Ao48 t1310.length co48) t1310) ∧ Aside0 (wc.heap[gb1272]? = some (.cells #[(.slice A0_0 l0_0.length c0_0), (.slice A0_1 l0_1.length c0_1), (.slice A0_2 l0_2.length c0_2)] 45 (0, 0))) ∧ Aside0 (wc.heap[gb1293]? = some (.cells #[(.slice Ao26 t1283.length co26), (.slice Ao29 t1286.length co29), (.slice Ao30 t1289.length co30)] 35 (0, 0))) ∧ Aside0 (wc.heap[gb1303]? = some (.cells #[(.slice Ao34 t1294.length co34), (.slice Ao38 t1297.length co38), (.slice Ao39 t1300.length co39)] 35 (0, 0))) ∧ Aside0 (wc.heap[gb1314]? = some (.cells #[(.slice Ao42 t1304.length co42), (.slice Ao47 t1307.length co47), (.slice Ao48 t1310.length co48)] 35 (0, 0))) ∧ Aside0 (Below w.heap.size w wc))
       case first =>
        have H := HC72.out
        clear HC72
        by_cases c84 : t1326 < 0
        ·rw [if_pos c84] at H
         have c84b0 : decide (t1326 < 0) = true := decide_eq_true c84
         clear c84
         (first | rw [c84b0] | (simp only [i64_w, i32_w]; rw [c84b0]) | skip)
         have H' := Aside0.mk H
         clear H
         go_wp2
         go_meet
         case rel => exact ⟨_, (true), (by first | rfl | (simp; done) | (simp [*]; done)), H', ⟨by have := HJ14.out; first | omega | exact Nat.le_refl _⟩, ⟨by (with_reducible repeat (first | apply rA_ | apply rN_ | apply rD_)); exact Kd.R_mono HO_1294000.out (fun _ hk => ⟨hk.1, hk.2.1⟩)⟩, ⟨by (with_reducible repeat (first | apply rA_ | apply rN_ | apply rD_)); exact Kd.R_mono HO_1294001.out (fun _ hk => ⟨hk.1, ⟨hk.2.1, ⟨hk.2.2.1, ⟨hk.2.2.2.1, hk.2.2.2.2.1⟩⟩⟩⟩)⟩, ⟨by (with_reducible repeat (first | apply rA_ | apply rN_ | apply rD_)); exact Kd.R_mono HO_1294002.out (fun _ hk => ⟨hk.1, ⟨hk.2.1, ⟨hk.2.2.1, ⟨hk.2.2.2.1, hk.2.2.2.2.1⟩⟩⟩⟩)⟩, ⟨by (with_reducible repeat (first | apply rA_ | apply rN_ | apply rD_)); exact Kd.R_mono HO_1304000.out (fun _ hk => ⟨hk.1.1, hk.1.2⟩)⟩, ⟨by (with_reducible repeat (first | apply rA_ | apply rN_ | apply rD_)); exact Kd.R_mono HO_1304001.out (fun _ hk => ⟨hk.1.1.1, ⟨hk.1.1.2.1, ⟨hk.1.1.2.2.1, ⟨hk.1.1.2.2.2.1, hk.1.1.2.2.2.2⟩⟩⟩⟩)⟩, ⟨by (with_reducible repeat (first | apply rA_ | apply rN_ | apply rD_)); exact Kd.R_mono HO_1304002.out (fun _ hk => ⟨hk.1.1.1, ⟨hk.1.1.2.1, ⟨hk.1.1.2.2.1, ⟨hk.1.1.2.2.2.1, hk.1.1.2.2.2.2⟩⟩⟩⟩)⟩, ⟨by (with_reducible repeat (first | apply rA_ | apply rN_ | apply rD_)); exact Kd.R_mono HO_1315000.out (fun _ hk => ⟨hk.1, hk.2.1⟩)⟩, ⟨by (with_reducible repeat (first | apply rA_ | apply rN_ | apply rD_)); exact Kd.R_mono HO_1315001.out (fun _ hk => ⟨hk.1, ⟨hk.2.1, ⟨hk.2.2.1, ⟨hk.2.2.2.1, hk.2.2.2.2.1⟩⟩⟩⟩)⟩, ⟨by (with_reducible repeat (first | apply rA_ | apply rN_ | apply rD_)); exact Kd.R_mono HO_1315002.out (fun _ hk => ⟨hk.1, ⟨hk.2.1, ⟨hk.2.2.1, ⟨hk.2.2.2.1, hk.2.2.2.2.1⟩⟩⟩⟩)⟩, ⟨by (with_reducible repeat (first | apply lN_ | apply lD_ | apply lA_)); exact BK1272.out⟩, ⟨by (with_reducible repeat (first | apply lN_ | apply lD_ | apply lA_)); exact BK1293.out⟩, ⟨by (with_reducible repeat (first | apply lN_ | apply lD_ | apply lA_)); exact BK1303.out⟩, ⟨by (with_reducible repeat (first | apply lN_ | apply lD_ | apply lA_)); exact BK1314.out⟩, ⟨bb4_ HB GE1272 GE1293 GE1303 GE1314⟩⟩
        ·rw [if_neg c84] at H
         have c84b0 : decide (t1326 < 0) = false := decide_eq_false c84
         clear c84
         (first | rw [c84b0] | (simp only [i64_w, i32_w]; rw [c84b0]) | skip)
         replace H := Option.bind_eq_some_iff.mp H
         obtain ⟨t1330, A850, H⟩ := H
         try dsimp only at H
         have A85 := Aside0.mk A850
         clear A850
         by_cases c86 : t1330 = true
         ·subst c86
          have H1 : (laws_FnExactReplaceItem.j1 kj14 a1 a2 t1292 (t1313 != t1292) l0_0 l0_1 l0_2 t1283 t1286 t1289 t1304 t1307 t1310) = some r := by rw [if_pos rfl] at H; exact H
          clear H
          have H := H1
          clear H1
          have H' := Aside0.mk H
          clear H
          have hnb87 := NB1314_1272.out
          have hnc87 := NB1272_1314.out
          have hnb88 := NB1314_1293.out
          have hnc88 := NB1293_1314.out
          have hnb89 := NB1314_1303.out
          have hnc89 := NB1303_1314.out
          have hcz90_0 := cz0_ BK1314
          have hcz90_1 := cz1_ BK1314
          have hcz90_2 := cz2_ BK1314
          have hfz90_0 := fz_ BK1314 0
          have hfz90_1 := fz_ BK1314 1
          have hfz90_2 := fz_ BK1314 2
          have hnb91 := NB1293_1272.out
          have hnc91 := NB1272_1293.out
          have hnb92 := NB1293_1303.out
          have hnc92 := NB1303_1293.out
          have hcz93_0 := cz0_ BK1293
          have hcz93_1 := cz1_ BK1293
          have hcz93_2 := cz2_ BK1293
          have hfz93_0 := fz_ BK1293 0
          have hfz93_1 := fz_ BK1293 1
          have hfz93_2 := fz_ BK1293 2
          go_wp2_with (first | (go_at_call 23; (with_reducible refine (laws_eqDesk.calls kj14 _ _ t1304 _ _ t1307 _ _ t1310 _ _ t1283 _ _ t1286 _ _ t1289 true _ ?side1 ?side2 ?side3 ?side4 ?side5 ?side6 ?side7 ?side8 ?side9 ?side10 ?side11 ?side12 A85.out).mono ?_); (case side1 => exact cr_ HO_1315000); (case side2 => exact (Kd.R_reads' HO_1315000.out).2.1); (case side3 => exact cr_ HO_1315001); (case side4 => exact (Kd.R_reads' HO_1315001.out).2.1); (case side5 => exact cr_ HO_1315002); (case side6 => exact (Kd.R_reads' HO_1315002.out).2.1); (case side7 => exact cr_ HO_1294000); (case side8 => exact (Kd.R_reads' HO_1294000.out).2.1); (case side9 => exact cr_ HO_1294001); (case side10 => exact (Kd.R_reads' HO_1294001.out).2.1); (case side11 => exact cr_ HO_1294002); (case side12 => exact (Kd.R_reads' HO_1294002.out).2.1); rintro e w94 ⟨rfl, hb⟩; have n0_ := Aside0.mk (Kd.R_below (ra_ HO_1294000) hb); have n1_ := Aside0.mk (Kd.R_below (ra_ HO_1294001) hb); have n2_ := Aside0.mk (Kd.R_below (ra_ HO_1294002) hb); have n3_ := Aside0.mk (Kd.R_below (ra_ HO_1304000) hb); have n4_ := Aside0.mk (Kd.R_below (ra_ HO_1304001) hb); have n5_ := Aside0.mk (Kd.R_below (ra_ HO_1304002) hb); have n6_ := Aside0.mk (Kd.R_below (ra_ HO_1315000) hb); have n7_ := Aside0.mk (Kd.R_below (ra_ HO_1315001) hb); have n8_ := Aside0.mk (Kd.R_below (ra_ HO_1315002) hb); have n9_ := Aside0.mk (Kd.R_below (ra_ HO1318) hb); have n10_ := Aside0.mk (Kd.R_below (ra_ HO1321) hb); have n11_ := Aside0.mk (Kd.R_below (ra_ HO1324) hb); have n12_ := Aside0.mk (lb_ BK1272 hb); have n13_ := Aside0.mk (lb_ BK1293 hb); have n14_ := Aside0.mk (lb_ BK1303 hb); have n15_ := Aside0.mk (lb_ BK1314 hb); have n16_ := Aside0.mk (below_step (bb4_ HB GE1272 GE1293 GE1303 GE1314) hb); clear HO_1294000; clear HO_1294001; clear HO_1294002; clear HO_1304000; clear HO_1304001; clear HO_1304002; clear HO_1315000; clear HO_1315001; clear HO_1315002; clear HO1318; clear HO1321; clear HO1324; clear BK1272; clear BK1293; clear BK1303; clear BK1314; clear HB; have HO_1294000 := n0_; have HO_1294001 := n1_; have HO_1294002 := n2_; have HO_1304000 := n3_; have HO_1304001 := n4_; have HO_1304002 := n5_; have HO_1315000 := n6_; have HO_1315001 := n7_; have HO_1315002 := n8_; have HO1318 := n9_; have HO1321 := n10_; have HO1324 := n11_; have BK1272 := n12_; have BK1293 := n13_; have BK1303 := n14_; have BK1314 := n15_; have HB := n16_; clear n0_ n1_ n2_ n3_ n4_ n5_ n6_ n7_ n8_ n9_ n10_ n11_ n12_ n13_ n14_ n15_ n16_; (try clear hb); (try clear hb2); (try clear hk); (try clear hi)))
          go_meet
          case rel => exact ⟨_, ((t1313 != t1292)), (by first | rfl | (simp; done) | (simp [*]; done)), H', ⟨by have := HJ14.out; first | omega | exact Nat.le_refl _⟩, ⟨by (with_reducible repeat (first | apply rA_ | apply rN_ | apply rD_)); exact Kd.R_mono HO_1294000.out (fun _ hk => ⟨hk.1, hk.2.1⟩)⟩, ⟨by (with_reducible repeat (first | apply rA_ | apply rN_ | apply rD_)); exact Kd.R_mono HO_1294001.out (fun _ hk => ⟨hk.1, ⟨hk.2.1, ⟨hk.2.2.1, ⟨hk.2.2.2.1, hk.2.2.2.2.1⟩⟩⟩⟩)⟩, ⟨by (with_reducible repeat (first | apply rA_ | apply rN_ | apply rD_)); exact Kd.R_mono HO_1294002.out (fun _ hk => ⟨hk.1, ⟨hk.2.1, ⟨hk.2.2.1, ⟨hk.2.2.2.1, hk.2.2.2.2.1⟩⟩⟩⟩)⟩, ⟨by (with_reducible repeat (first | apply rA_ | apply rN_ | apply rD_)); exact Kd.R_mono HO_1304000.out (fun _ hk => ⟨hk.1.1, hk.1.2⟩)⟩, ⟨by (with_reducible repeat (first | apply rA_ | apply rN_ | apply rD_)); exact Kd.R_mono HO_1304001.out (fun _ hk => ⟨hk.1.1.1, ⟨hk.1.1.2.1, ⟨hk.1.1.2.2.1, ⟨hk.1.1.2.2.2.1, hk.1.1.2.2.2.2⟩⟩⟩⟩)⟩, ⟨by (with_reducible repeat (first | apply rA_ | apply rN_ | apply rD_)); exact Kd.R_mono HO_1304002.out (fun _ hk => ⟨hk.1.1.1, ⟨hk.1.1.2.1, ⟨hk.1.1.2.2.1, ⟨hk.1.1.2.2.2.1, hk.1.1.2.2.2.2⟩⟩⟩⟩)⟩, ⟨by (with_reducible repeat (first | apply rA_ | apply rN_ | apply rD_)); exact Kd.R_mono HO_1315000.out (fun _ hk => ⟨hk.1, hk.2.1⟩)⟩, ⟨by (with_reducible repeat (first | apply rA_ | apply rN_ | apply rD_)); exact Kd.R_mono HO_1315001.out (fun _ hk => ⟨hk.1, ⟨hk.2.1, ⟨hk.2.2.1, ⟨hk.2.2.2.1, hk.2.2.2.2.1⟩⟩⟩⟩)⟩, ⟨by (with_reducible repeat (first | apply rA_ | apply rN_ | apply rD_)); exact Kd.R_mono HO_1315002.out (fun _ hk => ⟨hk.1, ⟨hk.2.1, ⟨hk.2.2.1, ⟨hk.2.2.2.1, hk.2.2.2.2.1⟩⟩⟩⟩)⟩, ⟨by (with_reducible repeat (first | apply lN_ | apply lD_ | apply lA_)); exact BK1272.out⟩, ⟨by (with_reducible repeat (first | apply lN_ | apply lD_ | apply lA_)); exact BK1293.out⟩, ⟨by (with_reducible repeat (first | apply lN_ | apply lD_ | apply lA_)); exact BK1303.out⟩, ⟨by (with_reducible repeat (first | apply lN_ | apply lD_ | apply lA_)); exact BK1314.out⟩, ⟨bb4_ HB GE1272 GE1293 GE1303 GE1314⟩⟩
         ·replace c86 := Bool.eq_false_iff.mpr c86
          subst c86
          have H1 : (laws_FnExactReplaceItem.j1 kj14 a1 a2 t1292 true l0_0 l0_1 l0_2 t1283 t1286 t1289 t1304 t1307 t1310) = some r := by rw [if_neg (show ¬ (false = true) by decide)] at H; exact H
          clear H
          have H := H1
          clear H1
          have H' := Aside0.mk H
          clear H
          have hnb95 := NB1314_1272.out
          have hnc95 := NB1272_1314.out
          have hnb96 := NB1314_1293.out
          have hnc96 := NB1293_1314.out
          have hnb97 := NB1314_1303.out
          have hnc97 := NB1303_1314.out
          have hcz98_0 := cz0_ BK1314
          have hcz98_1 := cz1_ BK1314
          have hcz98_2 := cz2_ BK1314
          have hfz98_0 := fz_ BK1314 0
          have hfz98_1 := fz_ BK1314 1
          have hfz98_2 := fz_ BK1314 2
          have hnb99 := NB1293_1272.out
          have hnc99 := NB1272_1293.out
          have hnb100 := NB1293_1303.out
          have hnc100 := NB1303_1293.out
          have hcz101_0 := cz0_ BK1293
          have hcz101_1 := cz1_ BK1293
          have hcz101_2 := cz2_ BK1293
          have hfz101_0 := fz_ BK1293 0
          have hfz101_1 := fz_ BK1293 1
          have hfz101_2 := fz_ BK1293 2
          go_wp2_with (first | (go_at_call 23; (with_reducible refine (laws_eqDesk.calls kj14 _ _ t1304 _ _ t1307 _ _ t1310 _ _ t1283 _ _ t1286 _ _ t1289 false _ ?side1 ?side2 ?side3 ?side4 ?side5 ?side6 ?side7 ?side8 ?side9 ?side10 ?side11 ?side12 A85.out).mono ?_); (case side1 => exact cr_ HO_1315000); (case side2 => exact (Kd.R_reads' HO_1315000.out).2.1); (case side3 => exact cr_ HO_1315001); (case side4 => exact (Kd.R_reads' HO_1315001.out).2.1); (case side5 => exact cr_ HO_1315002); (case side6 => exact (Kd.R_reads' HO_1315002.out).2.1); (case side7 => exact cr_ HO_1294000); (case side8 => exact (Kd.R_reads' HO_1294000.out).2.1); (case side9 => exact cr_ HO_1294001); (case side10 => exact (Kd.R_reads' HO_1294001.out).2.1); (case side11 => exact cr_ HO_1294002); (case side12 => exact (Kd.R_reads' HO_1294002.out).2.1); rintro e w102 ⟨rfl, hb⟩; have n0_ := Aside0.mk (Kd.R_below (ra_ HO_1294000) hb); have n1_ := Aside0.mk (Kd.R_below (ra_ HO_1294001) hb); have n2_ := Aside0.mk (Kd.R_below (ra_ HO_1294002) hb); have n3_ := Aside0.mk (Kd.R_below (ra_ HO_1304000) hb); have n4_ := Aside0.mk (Kd.R_below (ra_ HO_1304001) hb); have n5_ := Aside0.mk (Kd.R_below (ra_ HO_1304002) hb); have n6_ := Aside0.mk (Kd.R_below (ra_ HO_1315000) hb); have n7_ := Aside0.mk (Kd.R_below (ra_ HO_1315001) hb); have n8_ := Aside0.mk (Kd.R_below (ra_ HO_1315002) hb); have n9_ := Aside0.mk (Kd.R_below (ra_ HO1318) hb); have n10_ := Aside0.mk (Kd.R_below (ra_ HO1321) hb); have n11_ := Aside0.mk (Kd.R_below (ra_ HO1324) hb); have n12_ := Aside0.mk (lb_ BK1272 hb); have n13_ := Aside0.mk (lb_ BK1293 hb); have n14_ := Aside0.mk (lb_ BK1303 hb); have n15_ := Aside0.mk (lb_ BK1314 hb); have n16_ := Aside0.mk (below_step (bb4_ HB GE1272 GE1293 GE1303 GE1314) hb); clear HO_1294000; clear HO_1294001; clear HO_1294002; clear HO_1304000; clear HO_1304001; clear HO_1304002; clear HO_1315000; clear HO_1315001; clear HO_1315002; clear HO1318; clear HO1321; clear HO1324; clear BK1272; clear BK1293; clear BK1303; clear BK1314; clear HB; have HO_1294000 := n0_; have HO_1294001 := n1_; have HO_1294002 := n2_; have HO_1304000 := n3_; have HO_1304001 := n4_; have HO_1304002 := n5_; have HO_1315000 := n6_; have HO_1315001 := n7_; have HO_1315002 := n8_; have HO1318 := n9_; have HO1321 := n10_; have HO1324 := n11_; have BK1272 := n12_; have BK1293 := n13_; have BK1303 := n14_; have BK1314 := n15_; have HB := n16_; clear n0_ n1_ n2_ n3_ n4_ n5_ n6_ n7_ n8_ n9_ n10_ n11_ n12_ n13_ n14_ n15_ n16_; (try clear hb); (try clear hb2); (try clear hk); (try clear hi)))
          go_meet
          case rel => exact ⟨_, (true), (by first | rfl | (simp; done) | (simp [*]; done)), H', ⟨by have := HJ14.out; first | omega | exact Nat.le_refl _⟩, ⟨by (with_reducible repeat (first | apply rA_ | apply rN_ | apply rD_)); exact Kd.R_mono HO_1294000.out (fun _ hk => ⟨hk.1, hk.2.1⟩)⟩, ⟨by (with_reducible repeat (first | apply rA_ | apply rN_ | apply rD_)); exact Kd.R_mono HO_1294001.out (fun _ hk => ⟨hk.1, ⟨hk.2.1, ⟨hk.2.2.1, ⟨hk.2.2.2.1, hk.2.2.2.2.1⟩⟩⟩⟩)⟩, ⟨by (with_reducible repeat (first | apply rA_ | apply rN_ | apply rD_)); exact Kd.R_mono HO_1294002.out (fun _ hk => ⟨hk.1, ⟨hk.2.1, ⟨hk.2.2.1, ⟨hk.2.2.2.1, hk.2.2.2.2.1⟩⟩⟩⟩)⟩, ⟨by (with_reducible repeat (first | apply rA_ | apply rN_ | apply rD_)); exact Kd.R_mono HO_1304000.out (fun _ hk => ⟨hk.1.1, hk.1.2⟩)⟩, ⟨by (with_reducible repeat (first | apply rA_ | apply rN_ | apply rD_)); exact Kd.R_mono HO_1304001.out (fun _ hk => ⟨hk.1.1.1, ⟨hk.1.1.2.1, ⟨hk.1.1.2.2.1, ⟨hk.1.1.2.2.2.1, hk.1.1.2.2.2.2⟩⟩⟩⟩)⟩, ⟨by (with_reducible repeat (first | apply rA_ | apply rN_ | apply rD_)); exact Kd.R_mono HO_1304002.out (fun _ hk => ⟨hk.1.1.1, ⟨hk.1.1.2.1, ⟨hk.1.1.2.2.1, ⟨hk.1.1.2.2.2.1, hk.1.1.2.2.2.2⟩⟩⟩⟩)⟩, ⟨by (with_reducible repeat (first | apply rA_ | apply rN_ | apply rD_)); exact Kd.R_mono HO_1315000.out (fun _ hk => ⟨hk.1, hk.2.1⟩)⟩, ⟨by (with_reducible repeat (first | apply rA_ | apply rN_ | apply rD_)); exact Kd.R_mono HO_1315001.out (fun _ hk => ⟨hk.1, ⟨hk.2.1, ⟨hk.2.2.1, ⟨hk.2.2.2.1, hk.2.2.2.2.1⟩⟩⟩⟩)⟩, ⟨by (with_reducible repeat (first | apply rA_ | apply rN_ | apply rD_)); exact Kd.R_mono HO_1315002.out (fun _ hk => ⟨hk.1, ⟨hk.2.1, ⟨hk.2.2.1, ⟨hk.2.2.2.1, hk.2.2.2.2.1⟩⟩⟩⟩)⟩, ⟨by (with_reducible repeat (first | apply lN_ | apply lD_ | apply lA_)); exact BK1272.out⟩, ⟨by (with_reducible repeat (first | apply lN_ | apply lD_ | apply lA_)); exact BK1293.out⟩, ⟨by (with_reducible repeat (first | apply lN_ | apply lD_ | apply lA_)); exact BK1303.out⟩, ⟨by (with_reducible repeat (first | apply lN_ | apply lD_ | apply lA_)); exact BK1314.out⟩, ⟨bb4_ HB GE1272 GE1293 GE1303 GE1314⟩⟩
       case rest =>
        clear HC72
        try clear c1
        try clear c2
        try clear p2
        try clear c3
        try clear c4
        try clear c4b0
        try clear c4b1
        try clear c5
        try clear c6
        try clear c7
        try clear c7b0
        try clear c8
        try clear c9
        try clear c10
        try clear c13
        try clear c23
        try clear c26
        try clear c27
        try clear c28
        try clear c30
        try clear c35
        try clear c36
        try clear c43
        try clear c44
        try clear c45
        try clear c47
        try clear c48
        try clear c50
        try clear c51
        try clear c52
        try clear c53
        try clear c55
        try clear c56
        try clear c59
        try clear c60
        try clear c61
        try clear c63
        try clear c64
        try clear c67
        try clear c70
        try clear c79
        try clear c80
        try clear c81
        try clear c84
        try clear c84b0
        try clear c86
        try clear c87
        try clear c88
        try clear c89
        try clear c91
        try clear c92
        try clear c95
        try clear c96
        try clear c97
        try clear c99
        try clear c100
        try clear hcz101_0
        try clear hcz101_1
        try clear hcz101_2
        try clear hcz17_0
        try clear hcz17_1
        try clear hcz17_2
        try clear hcz19_0
        try clear hcz19_1
        try clear hcz19_2
        try clear hcz28_0
        try clear hcz28_1
        try clear hcz28_2
        try clear hcz31_0
        try clear hcz31_1
        try clear hcz31_2
        try clear hcz37_0
        try clear hcz37_1
        try clear hcz37_2
        try clear hcz46_0
        try clear hcz46_1
        try clear hcz46_2
        try clear hcz54_0
        try clear hcz54_1
        try clear hcz54_2
        try clear hcz57_0
        try clear hcz57_1
        try clear hcz57_2
        try clear hcz62_0
        try clear hcz62_1
        try clear hcz62_2
        try clear hcz65_0
        try clear hcz65_1
        try clear hcz65_2
        try clear hcz82_0
        try clear hcz82_1
        try clear hcz82_2
        try clear hcz90_0
        try clear hcz90_1
        try clear hcz90_2
        try clear hcz93_0
        try clear hcz93_1
        try clear hcz93_2
        try clear hcz98_0
        try clear hcz98_1
        try clear hcz98_2
        try clear hcz9_0
        try clear hcz9_1
        try clear hcz9_2
        try clear hfz101_0
        try clear hfz101_1
        try clear hfz101_2
        try clear hfz17_0
        try clear hfz17_1
        try clear hfz17_2
        try clear hfz19_0
        try clear hfz19_1
        try clear hfz19_2
        try clear hfz28_0
        try clear hfz28_1
        try clear hfz28_2
        try clear hfz31_0
        try clear hfz31_1
        try clear hfz31_2
        try clear hfz37_0
        try clear hfz37_1
        try clear hfz37_2
        try clear hfz46_0
        try clear hfz46_1
        try clear hfz46_2
        try clear hfz54_0
        try clear hfz54_1
        try clear hfz54_2
        try clear hfz57_0
        try clear hfz57_1
        try clear hfz57_2
        try clear hfz62_0
        try clear hfz62_1
        try clear hfz62_2
        try clear hfz65_0
        try clear hfz65_1
        try clear hfz65_2
        try clear hfz82_0
        try clear hfz82_1
        try clear hfz82_2
        try clear hfz90_0
        try clear hfz90_1
        try clear hfz90_2
        try clear hfz93_0
        try clear hfz93_1
        try clear hfz93_2
        try clear hfz98_0
        try clear hfz98_1
        try clear hfz98_2
        try clear hfz9_0
        try clear hfz9_1
        try clear hfz9_2
        try clear p2
        obtain ⟨kq, x72_71, rfl, HA, HJ71, HO_1294000, HO_1294001, HO_1294002, HO_1304000, HO_1304001, HO_1304002, HO_1315000, HO_1315001, HO_1315002, BK1272, BK1293, BK1303, BK1314, HB⟩ := hcut
        have hl1304000_71 := (Kd.R_reads' HO_1304000.out).1
        rw [hl1304000_71] at HO_1304000
        (try simp only [hl1304000_71])
        (try simp only [hl1304000_71] at BK1272)
        (try simp only [hl1304000_71] at BK1293)
        (try simp only [hl1304000_71] at BK1303)
        (try simp only [hl1304000_71] at BK1314)
        (try simp only [hl1304000_71] at HO_1294000)
        (try simp only [hl1304000_71] at HO_1294001)
        (try simp only [hl1304000_71] at HO_1294002)
        (try simp only [hl1304000_71] at HO_1304001)
        (try simp only [hl1304000_71] at HO_1304002)
        (try simp only [hl1304000_71] at HO_1315000)
        (try simp only [hl1304000_71] at HO_1315001)
        (try simp only [hl1304000_71] at HO_1315002)
        have hl1304001_71 := (Kd.R_reads' HO_1304001.out).1
        rw [hl1304001_71] at HO_1304001
        (try simp only [hl1304001_71])
        (try simp only [hl1304001_71] at BK1272)
        (try simp only [hl1304001_71] at BK1293)
        (try simp only [hl1304001_71] at BK1303)
        (try simp only [hl1304001_71] at BK1314)
        (try simp only [hl1304001_71] at HO_1294000)
        (try simp only [hl1304001_71] at HO_1294001)
        (try simp only [hl1304001_71] at HO_1294002)
        (try simp only [hl1304001_71] at HO_1304000)
        (try simp only [hl1304001_71] at HO_1304002)
        (try simp only [hl1304001_71] at HO_1315000)
        (try simp only [hl1304001_71] at HO_1315001)
        (try simp only [hl1304001_71] at HO_1315002)
        have hl1304002_71 := (Kd.R_reads' HO_1304002.out).1
        rw [hl1304002_71] at HO_1304002
        (try simp only [hl1304002_71])
        (try simp only [hl1304002_71] at BK1272)
        (try simp only [hl1304002_71] at BK1293)
        (try simp only [hl1304002_71] at BK1303)
        (try simp only [hl1304002_71] at BK1314)
        (try simp only [hl1304002_71] at HO_1294000)
        (try simp only [hl1304002_71] at HO_1294001)
        (try simp only [hl1304002_71] at HO_1294002)
        (try simp only [hl1304002_71] at HO_1304000)
        (try simp only [hl1304002_71] at HO_1304001)
        (try simp only [hl1304002_71] at HO_1315000)
        (try simp only [hl1304002_71] at HO_1315001)
        (try simp only [hl1304002_71] at HO_1315002)
        cases kq with
        | zero => exact absurd HA.out (by simp [laws_FnExactReplaceItem.j1])
        | succ kj71 =>
         have H := HA.out
         clear HA
         simp only [laws_FnExactReplaceItem.j1] at H
         by_cases c103 : x72_71 = true
         ·subst c103
          have H1 : (none) = some r := by rw [if_pos rfl] at H; exact H
          clear H
          have H := H1
          clear H1
          exact absurd H (by simp)
         ·replace c103 := Bool.eq_false_iff.mpr c103
          subst c103
          have H1 : ((laws_markDesk.f kj71 t1304 t1307 t1310 1).bind fun bt1331 => ((laws_heldDesk.f kj71 bt1331.2.1 bt1331.2.2.1 bt1331.2.2.2 1).bind fun t1335 => (if t1335 < 0 then (none) else (if t1335 = bt1331.1 then ((laws_toDesk.f kj71 l0_0 l0_1 l0_2).bind fun bt1336 => ((impl_ReplaceItem.f kj71 bt1336.1 bt1336.2.1 bt1336.2.2 a1 a2).bind fun bt1345 => ((laws_eqDesk.f kj71 bt1345.1 bt1345.2.1 bt1345.2.2.1 t1283 t1286 t1289).bind fun t1356 => (if t1356 = true then (laws_FnExactReplaceItem.j2 kj71 bt1331.1 (bt1345.2.2.2 != t1292) bt1331.2.1 bt1331.2.2.1 bt1331.2.2.2) else (laws_FnExactReplaceItem.j2 kj71 bt1331.1 true bt1331.2.1 bt1331.2.2.1 bt1331.2.2.2))))) else (none))))) = some r := by rw [if_neg (show ¬ (false = true) by decide)] at H; exact H
          clear H
          have H := H1
          clear H1
          replace H := Option.bind_eq_some_iff.mp H
          obtain ⟨⟨t1331, t1332, t1333, t1334⟩, A1040, H⟩ := H
          try dsimp only at H
          have A104 := Aside0.mk A1040
          clear A1040
          replace H := Option.bind_eq_some_iff.mp H
          obtain ⟨t1335, A1050, H⟩ := H
          try dsimp only at H
          have A105 := Aside0.mk A1050
          clear A1050
          by_cases c106 : t1335 < 0
          ·rw [if_pos c106] at H
           exact absurd H (by simp)
          ·rw [if_neg c106] at H
           have c106b0 : decide (t1335 < 0) = false := decide_eq_false c106
           clear c106
           by_cases c107 : t1335 = t1331
           ·rw [if_pos c107] at H
            have c107b0 : (t1335 == t1331) = true := beq_iff_eq.mpr c107
            have c107b1 : (t1335 != t1331) = false := bne_eq_false_iff_eq.mpr c107
            clear c107
            replace H := Option.bind_eq_some_iff.mp H
            obtain ⟨⟨t1336, t1339, t1342⟩, A1080, H⟩ := H
            try dsimp only at H
            have A108 := Aside0.mk A1080
            clear A1080
            replace H := Option.bind_eq_some_iff.mp H
            obtain ⟨⟨t1345, t1348, t1351, t1354⟩, A1090, H⟩ := H
            try dsimp only at H
            have A109 := Aside0.mk A1090
            clear A1090
            have HC110 := Aside0.mk H
            clear H
            have hnb111 := NB1314_1272.out
            have hnc111 := NB1272_1314.out
            have hnb112 := NB1314_1293.out
            have hnc112 := NB1293_1314.out
            have hnb113 := NB1314_1303.out
            have hnc113 := NB1303_1314.out
            have hcz114_0 := cz0_ BK1314
            have hcz114_1 := cz1_ BK1314
            have hcz114_2 := cz2_ BK1314
            have hfz114_0 := fz_ BK1314 0
            have hfz114_1 := fz_ BK1314 1
            have hfz114_2 := fz_ BK1314 2
            go_upto_region 27 with (first | ((with_reducible refine gate_callee (f := 26) rfl ?_); refine goesL_ (some 75) rfl rfl Try.func26 (by kernel_rfl) rfl #[.agg #[.slice Ao42 t1304.length co42, .slice Ao47 t1307.length co47, .slice Ao48 t1310.length co48], .int .i64 1] rfl args_ ?_; (with_reducible refine (laws_markDesk.calls kj71 (fun k_ => some k_ = (.slice Ao42 t1304.length co42 : Value).ownBlock) (.slice Ao42 t1304.length co42) t1304 (fun k_ => some k_ = (.slice Ao47 t1307.length co47 : Value).ownBlock) (.slice Ao47 t1307.length co47) t1307 (fun k_ => some k_ = (.slice Ao48 t1310.length co48 : Value).ownBlock) (.slice Ao48 t1310.length co48) t1310 1 t1331 t1332 t1333 t1334 w _ ?side1 ?side2 ?side3 ?side4 ?side5 ?side6 A104.out).mono ?_); (case side1 => repeat (first | (with_reducible first | exact HB.out | apply bA_ | apply bN_ | apply bD_ | refine bS_ ?_ GE1272.out | refine bS_ ?_ GE1293.out | refine bS_ ?_ GE1303.out | refine bS_ ?_ GE1314.out) | exact HB.out)); (case side2 => exact Kd.R_tight rfl HO_1315000.out); (case side3 => exact Kd.R_tight rfl HO_1315001.out); (case side4 => exact fun k_ e_ => (HO_1315001.out.1 k_ e_.symm).2.2.2.2); (case side5 => exact Kd.R_tight rfl HO_1315002.out); (case side6 => exact fun k_ e_ => (HO_1315002.out.1 k_ e_.symm).2.2.2.2); rintro e w115 ⟨rfl, hy0, hy1, hy2, hb, hkp⟩; refine ⟨_, rfl, ?_⟩; have n0_ := Aside0.mk (Kd.R_mono (ok' := fun k_ => some k_ ≠ (.slice Ao34 t1327.length co34 : Value).ownBlock ∧ some k_ ≠ (.slice Ao42 t1304.length co42 : Value).ownBlock) (Kd.R_keptB ((Kd.R_apart' (Kd.R_apart' HO_1294000.out (Kd.R_typed HO_1315001.out) (by decide)) (Kd.R_typed HO_1315002.out) (by decide))) hkp (fun k_ hk_ hs_ => Or.elim hs_ (fun e_ => (hk_.1.1.2) e_) (fun e_ => Or.elim e_ (fun e_ => (hk_.1.2) e_) (fun e_ => (hk_.2) e_)))) (fun k_ hk_ => ⟨hk_.1.1.1.1, hk_.1.1.1.2⟩)); have n1_ := Aside0.mk (Kd.R_mono (ok' := fun k_ => some k_ ≠ (.slice Ao30 t1289.length co30 : Value).ownBlock ∧ some k_ ≠ (.slice Ao38 t1328.length co38 : Value).ownBlock ∧ some k_ ≠ (.slice Ao39 t1329.length co39 : Value).ownBlock ∧ some k_ ≠ (.slice Ao47 t1307.length co47 : Value).ownBlock ∧ some k_ ≠ (.slice Ao48 t1310.length co48 : Value).ownBlock) (Kd.R_keptB ((Kd.R_apart' HO_1294001.out (Kd.R_typed HO_1315000.out) (by decide))) hkp (fun k_ hk_ hs_ => Or.elim hs_ (fun e_ => (hk_.2) e_) (fun e_ => Or.elim e_ (fun e_ => (hk_.1.2.2.2.1) e_) (fun e_ => (hk_.1.2.2.2.2) e_)))) (fun k_ hk_ => ⟨hk_.1.1.1, hk_.1.1.2.1, hk_.1.1.2.2.1, hk_.1.1.2.2.2.1, hk_.1.1.2.2.2.2⟩)); have n2_ := Aside0.mk (Kd.R_mono (ok' := fun k_ => some k_ ≠ (.slice Ao29 t1286.length co29 : Value).ownBlock ∧ some k_ ≠ (.slice Ao38 t1328.length co38 : Value).ownBlock ∧ some k_ ≠ (.slice Ao39 t1329.length co39 : Value).ownBlock ∧ some k_ ≠ (.slice Ao47 t1307.length co47 : Value).ownBlock ∧ some k_ ≠ (.slice Ao48 t1310.length co48 : Value).ownBlock) (Kd.R_keptB ((Kd.R_apart' HO_1294002.out (Kd.R_typed HO_1315000.out) (by decide))) hkp (fun k_ hk_ hs_ => Or.elim hs_ (fun e_ => (hk_.2) e_) (fun e_ => Or.elim e_ (fun e_ => (hk_.1.2.2.2.1) e_) (fun e_ => (hk_.1.2.2.2.2) e_)))) (fun k_ hk_ => ⟨hk_.1.1.1, hk_.1.1.2.1, hk_.1.1.2.2.1, hk_.1.1.2.2.2.1, hk_.1.1.2.2.2.2⟩)); have n3_ := Aside0.mk (Kd.R_mono (ok' := fun k_ => some k_ ≠ (.slice Ao26 t1283.length co26 : Value).ownBlock ∧ some k_ ≠ (.slice Ao42 t1304.length co42 : Value).ownBlock) (Kd.R_keptB ((Kd.R_apart' (Kd.R_apart' HO_1304000.out (Kd.R_typed HO_1315001.out) (by decide)) (Kd.R_typed HO_1315002.out) (by decide))) hkp (fun k_ hk_ hs_ => Or.elim hs_ (fun e_ => (hk_.1.1.2) e_) (fun e_ => Or.elim e_ (fun e_ => (hk_.1.2) e_) (fun e_ => (hk_.2) e_)))) (fun k_ hk_ => ⟨hk_.1.1.1.1, hk_.1.1.1.2⟩)); have n4_ := Aside0.mk (Kd.R_mono (ok' := fun k_ => some k_ ≠ (.slice Ao29 t1286.length co29 : Value).ownBlock ∧ some k_ ≠ (.slice Ao30 t1289.length co30 : Value).ownBlock ∧ some k_ ≠ (.slice Ao39 t1329.length co39 : Value).ownBlock ∧ some k_ ≠ (.slice Ao47 t1307.length co47 : Value).ownBlock ∧ some k_ ≠ (.slice Ao48 t1310.length co48 : Value).ownBlock) (Kd.R_keptB ((Kd.R_apart' HO_1304001.out (Kd.R_typed HO_1315000.out) (by decide))) hkp (fun k_ hk_ hs_ => Or.elim hs_ (fun e_ => (hk_.2) e_) (fun e_ => Or.elim e_ (fun e_ => (hk_.1.2.2.2.1) e_) (fun e_ => (hk_.1.2.2.2.2) e_)))) (fun k_ hk_ => ⟨hk_.1.1.1, hk_.1.1.2.1, hk_.1.1.2.2.1, hk_.1.1.2.2.2.1, hk_.1.1.2.2.2.2⟩)); have n5_ := Aside0.mk (Kd.R_mono (ok' := fun k_ => some k_ ≠ (.slice Ao29 t1286.length co29 : Value).ownBlock ∧ some k_ ≠ (.slice Ao30 t1289.length co30 : Value).ownBlock ∧ some k_ ≠ (.slice Ao38 t1328.length co38 : Value).ownBlock ∧ some k_ ≠ (.slice Ao47 t1307.length co47 : Value).ownBlock ∧ some k_ ≠ (.slice Ao48 t1310.length co48 : Value).ownBlock) (Kd.R_keptB ((Kd.R_apart' HO_1304002.out (Kd.R_typed HO_1315000.out) (by decide))) hkp (fun k_ hk_ hs_ => Or.elim hs_ (fun e_ => (hk_.2) e_) (fun e_ => Or.elim e_ (fun e_ => (hk_.1.2.2.2.1) e_) (fun e_ => (hk_.1.2.2.2.2) e_)))) (fun k_ hk_ => ⟨hk_.1.1.1, hk_.1.1.2.1, hk_.1.1.2.2.1, hk_.1.1.2.2.2.1, hk_.1.1.2.2.2.2⟩)); have n6_ := Aside0.mk (Kd.R_reok rfl hy0 (fun k_ e_ => HO_1315000.out.1 k_ e_)); have n7_ := Aside0.mk (Kd.R_reok rfl hy1 (fun k_ e_ => HO_1315001.out.1 k_ e_)); have n8_ := Aside0.mk (Kd.R_reok rfl hy2 (fun k_ e_ => HO_1315002.out.1 k_ e_)); have n9_ := Aside0.mk (blk_kept (la_ BK1272) hkp (fun hs_ => Or.elim hs_ (fun e_ => (fun e_ => (Kd.R_ne HO_1315000.out BK1272.out (by decide)) e_) e_) (fun e_ => Or.elim e_ (fun e_ => (fun e_ => (Kd.R_ne HO_1315001.out BK1272.out (by decide)) e_) e_) (fun e_ => (fun e_ => (Kd.R_ne HO_1315002.out BK1272.out (by decide)) e_) e_)))); have n10_ := Aside0.mk (blk_kept (la_ BK1293) hkp (fun hs_ => Or.elim hs_ (fun e_ => (fun e_ => (Kd.R_ne HO_1315000.out BK1293.out (by decide)) e_) e_) (fun e_ => Or.elim e_ (fun e_ => (fun e_ => (Kd.R_ne HO_1315001.out BK1293.out (by decide)) e_) e_) (fun e_ => (fun e_ => (Kd.R_ne HO_1315002.out BK1293.out (by decide)) e_) e_)))); have n11_ := Aside0.mk (blk_kept (la_ BK1303) hkp (fun hs_ => Or.elim hs_ (fun e_ => (fun e_ => (Kd.R_ne HO_1315000.out BK1303.out (by decide)) e_) e_) (fun e_ => Or.elim e_ (fun e_ => (fun e_ => (Kd.R_ne HO_1315001.out BK1303.out (by decide)) e_) e_) (fun e_ => (fun e_ => (Kd.R_ne HO_1315002.out BK1303.out (by decide)) e_) e_)))); have n12_ := Aside0.mk (blk_kept (la_ BK1314) hkp (fun hs_ => Or.elim hs_ (fun e_ => (fun e_ => (Kd.R_ne HO_1315000.out BK1314.out (by decide)) e_) e_) (fun e_ => Or.elim e_ (fun e_ => (fun e_ => (Kd.R_ne HO_1315001.out BK1314.out (by decide)) e_) e_) (fun e_ => (fun e_ => (Kd.R_ne HO_1315002.out BK1314.out (by decide)) e_) e_)))); have n13_ := Aside0.mk (hb); clear HO_1294000; clear HO_1294001; clear HO_1294002; clear HO_1304000; clear HO_1304001; clear HO_1304002; clear HO_1315000; clear HO_1315001; clear HO_1315002; clear BK1272; clear BK1293; clear BK1303; clear BK1314; clear HB; have HO_1294000 := n0_; have HO_1294001 := n1_; have HO_1294002 := n2_; have HO_1304000 := n3_; have HO_1304001 := n4_; have HO_1304002 := n5_; have HO_1315000 := n6_; have HO_1315001 := n7_; have HO_1315002 := n8_; have BK1272 := n9_; have BK1293 := n10_; have BK1303 := n11_; have BK1314 := n12_; have HB := n13_; clear n0_ n1_ n2_ n3_ n4_ n5_ n6_ n7_ n8_ n9_ n10_ n11_ n12_ n13_; (try clear hb); (try clear hkp); (try clear hy0); (try clear hy1); (try clear hy2); have hcz116_0 := cz0_ BK1314; have hcz116_1 := cz1_ BK1314; have hcz116_2 := cz2_ BK1314; have hfz116_0 := fz_ BK1314 0; have hfz116_1 := fz_ BK1314 1; have hfz116_2 := fz_ BK1314 2) | ((with_reducible refine gate_callee (f := 27) rfl ?_); refine goesL_ (some 78) rfl rfl Try.func27 (by kernel_rfl) rfl #[.agg #[.slice Ao42 t1332.length co42, .slice Ao47 t1333.length co47, .slice Ao48 t1334.length co48], .int .i64 1] rfl (by (try simp only [List.map_toArray, List.map_cons, List.map_nil]); first | done | (rw [show t1332.length = t1304.length from (Kd.R_reads' HO_1315000.out).1.symm, show t1333.length = t1307.length from (Kd.R_reads' HO_1315001.out).1.symm, show t1334.length = t1310.length from (Kd.R_reads' HO_1315002.out).1.symm] <;> rfl) | rfl | (simp only [List.length_drop, List.length_take]; rfl)) ?_; (with_reducible refine (laws_heldDesk.calls kj71 _ _ t1332 _ _ t1333 _ _ t1334 1 t1335 _ ?side1 ?side2 ?side3 ?side4 ?side5 ?side6 A105.out).mono ?_); (case side1 => exact cr_ HO_1315000); (case side2 => rw [show t1332.length = t1304.length from (Kd.R_reads' HO_1315000.out).1.symm]; exact (Kd.R_reads' HO_1315000.out).2.1); (case side3 => exact cr_ HO_1315001); (case side4 => rw [show t1333.length = t1307.length from (Kd.R_reads' HO_1315001.out).1.symm]; exact (Kd.R_reads' HO_1315001.out).2.1); (case side5 => exact cr_ HO_1315002); (case side6 => rw [show t1334.length = t1310.length from (Kd.R_reads' HO_1315002.out).1.symm]; exact (Kd.R_reads' HO_1315002.out).2.1); rintro e w117 ⟨rfl, hb⟩; refine ⟨_, rfl, ?_⟩; have n0_ := Aside0.mk (Kd.R_below (ra_ HO_1294000) hb); have n1_ := Aside0.mk (Kd.R_below (ra_ HO_1294001) hb); have n2_ := Aside0.mk (Kd.R_below (ra_ HO_1294002) hb); have n3_ := Aside0.mk (Kd.R_below (ra_ HO_1304000) hb); have n4_ := Aside0.mk (Kd.R_below (ra_ HO_1304001) hb); have n5_ := Aside0.mk (Kd.R_below (ra_ HO_1304002) hb); have n6_ := Aside0.mk (Kd.R_below (ra_ HO_1315000) hb); have n7_ := Aside0.mk (Kd.R_below (ra_ HO_1315001) hb); have n8_ := Aside0.mk (Kd.R_below (ra_ HO_1315002) hb); have n9_ := Aside0.mk (lb_ BK1272 hb); have n10_ := Aside0.mk (lb_ BK1293 hb); have n11_ := Aside0.mk (lb_ BK1303 hb); have n12_ := Aside0.mk (lb_ BK1314 hb); have n13_ := Aside0.mk (below_step (bb4_ HB GE1272 GE1293 GE1303 GE1314) hb); clear HO_1294000; clear HO_1294001; clear HO_1294002; clear HO_1304000; clear HO_1304001; clear HO_1304002; clear HO_1315000; clear HO_1315001; clear HO_1315002; clear BK1272; clear BK1293; clear BK1303; clear BK1314; clear HB; have HO_1294000 := n0_; have HO_1294001 := n1_; have HO_1294002 := n2_; have HO_1304000 := n3_; have HO_1304001 := n4_; have HO_1304002 := n5_; have HO_1315000 := n6_; have HO_1315001 := n7_; have HO_1315002 := n8_; have BK1272 := n9_; have BK1293 := n10_; have BK1303 := n11_; have BK1314 := n12_; have HB := n13_; clear n0_ n1_ n2_ n3_ n4_ n5_ n6_ n7_ n8_ n9_ n10_ n11_ n12_ n13_; (try clear hb); (try clear hb2); (try clear hk); (try clear hi); have hnb118 := NB1272_1293.out; have hnc118 := NB1293_1272.out; have hnb119 := NB1272_1303.out; have hnc119 := NB1303_1272.out; have hcz120_0 := cz0_ BK1272; have hcz120_1 := cz1_ BK1272; have hcz120_2 := cz2_ BK1272; have hfz120_0 := fz_ BK1272 0; have hfz120_1 := fz_ BK1272 1; have hfz120_2 := fz_ BK1272 2) | ((with_reducible refine gate_callee (f := 30) rfl ?_); refine goesL_ (some 86) rfl rfl Try.func30 (by kernel_rfl) rfl #[.agg #[.slice A0_0 l0_0.length c0_0, .slice A0_1 l0_1.length c0_1, .slice A0_2 l0_2.length c0_2]] rfl args_ ?_; (with_reducible refine (laws_toDesk.calls kj71 _ _ l0_0 _ _ l0_1 _ _ l0_2 t1336 t1339 t1342 _ ?side1 ?side2 ?side3 ?side4 ?side5 ?side6 A108.out).mono ?_); (case side1 => exact cb_ HR0_0 HB); (case side2 => exact HC0_0.out); (case side3 => exact cb_ HR0_1 HB); (case side4 => exact HC0_1.out); (case side5 => exact cb_ HR0_2 HB); (case side6 => exact HC0_2.out); rintro e w121 ⟨v1337, v1340, v1343, rfl, ho0, ho1, ho2, hb⟩; refine ⟨_, rfl, ?_⟩; have n0_ := Aside0.mk (Kd.R_elder' (ra_ HO_1294000) (Kd.R_base ho0) hb); have n1_ := Aside0.mk (Kd.R_mono (Kd.R_told (Kd.R_told (Kd.R_old (ra_ HO_1294001) hb) (Kd.R_base ho1)) (Kd.R_base ho2)) (fun _ h_ => h_.1)); have n2_ := Aside0.mk (Kd.R_mono (Kd.R_told (Kd.R_told (Kd.R_old (ra_ HO_1294002) hb) (Kd.R_base ho1)) (Kd.R_base ho2)) (fun _ h_ => h_.1)); have n3_ := Aside0.mk (Kd.R_elder' (ra_ HO_1304000) (Kd.R_base ho0) hb); have n4_ := Aside0.mk (Kd.R_mono (Kd.R_told (Kd.R_told (Kd.R_old (ra_ HO_1304001) hb) (Kd.R_base ho1)) (Kd.R_base ho2)) (fun _ h_ => h_.1)); have n5_ := Aside0.mk (Kd.R_mono (Kd.R_told (Kd.R_told (Kd.R_old (ra_ HO_1304002) hb) (Kd.R_base ho1)) (Kd.R_base ho2)) (fun _ h_ => h_.1)); have n6_ := Aside0.mk (Kd.R_elder' (ra_ HO_1315000) (Kd.R_base ho0) hb); have n7_ := Aside0.mk (Kd.R_mono (Kd.R_told (Kd.R_told (Kd.R_old (ra_ HO_1315001) hb) (Kd.R_base ho1)) (Kd.R_base ho2)) (fun _ h_ => h_.1)); have n8_ := Aside0.mk (Kd.R_mono (Kd.R_told (Kd.R_told (Kd.R_old (ra_ HO_1315002) hb) (Kd.R_base ho1)) (Kd.R_base ho2)) (fun _ h_ => h_.1)); have n9_ := Aside0.mk (Kd.R_lower (Kd.R_new' (Kd.R_new' (Kd.R_new' ho0 (Kd.R_lt (ra_ HO_1294000))) (Kd.R_lt (ra_ HO_1304000))) (Kd.R_lt (ra_ HO_1315000))) (below_size (bb4_ HB GE1272 GE1293 GE1303 GE1314))); have n10_ := Aside0.mk (Kd.R_lower (Kd.R_new' (Kd.R_new' (Kd.R_new' (Kd.R_new' (Kd.R_new' (Kd.R_new' ho1 (Kd.R_lt (ra_ HO_1294001))) (Kd.R_lt (ra_ HO_1294002))) (Kd.R_lt (ra_ HO_1304001))) (Kd.R_lt (ra_ HO_1304002))) (Kd.R_lt (ra_ HO_1315001))) (Kd.R_lt (ra_ HO_1315002))) (below_size (bb4_ HB GE1272 GE1293 GE1303 GE1314))); have n11_ := Aside0.mk (Kd.R_lower (Kd.R_new' (Kd.R_new' (Kd.R_new' (Kd.R_new' (Kd.R_new' (Kd.R_new' ho2 (Kd.R_lt (ra_ HO_1294001))) (Kd.R_lt (ra_ HO_1294002))) (Kd.R_lt (ra_ HO_1304001))) (Kd.R_lt (ra_ HO_1304002))) (Kd.R_lt (ra_ HO_1315001))) (Kd.R_lt (ra_ HO_1315002))) (below_size (bb4_ HB GE1272 GE1293 GE1303 GE1314))); have n12_ := Aside0.mk (lb_ BK1272 hb); have n13_ := Aside0.mk (lb_ BK1293 hb); have n14_ := Aside0.mk (lb_ BK1303 hb); have n15_ := Aside0.mk (lb_ BK1314 hb); have n16_ := Aside0.mk (below_step (bb4_ HB GE1272 GE1293 GE1303 GE1314) hb); clear HO_1294000; clear HO_1294001; clear HO_1294002; clear HO_1304000; clear HO_1304001; clear HO_1304002; clear HO_1315000; clear HO_1315001; clear HO_1315002; clear BK1272; clear BK1293; clear BK1303; clear BK1314; clear HB; have HO_1294000 := n0_; have HO_1294001 := n1_; have HO_1294002 := n2_; have HO_1304000 := n3_; have HO_1304001 := n4_; have HO_1304002 := n5_; have HO_1315000 := n6_; have HO_1315001 := n7_; have HO_1315002 := n8_; have HO1338 := n9_; have HO1341 := n10_; have HO1344 := n11_; have BK1272 := n12_; have BK1293 := n13_; have BK1303 := n14_; have BK1314 := n15_; have HB := n16_; clear n0_ n1_ n2_ n3_ n4_ n5_ n6_ n7_ n8_ n9_ n10_ n11_ n12_ n13_ n14_ n15_ n16_; (try clear hb); (try clear hb2); (try clear hk); (try clear hi); (try clear ho0); (try clear ho1); (try clear ho2); obtain ⟨Ao122, co122, eo122⟩ := Kd.R_slice HO1338.out; subst eo122; obtain ⟨Ao123, co123, eo123⟩ := Kd.R_slice HO1341.out; subst eo123; obtain ⟨Ao124, co124, eo124⟩ := Kd.R_slice HO1344.out; subst eo124) | ((with_reducible refine gate_callee (f := 48) rfl ?_); refine goesL_ (some 89) rfl rfl Try.func48 (by kernel_rfl) rfl #[.agg #[.slice Ao122 t1336.length co122, .slice Ao123 t1339.length co123, .slice Ao124 t1342.length co124], .int .i64 a1, .string a2] rfl args_ ?_; (with_reducible refine (impl_ReplaceItem.calls kj71 _ _ t1336 _ _ t1339 _ _ t1342 a1 a2 t1345 t1348 t1351 t1354 _ ?side1 ?side2 ?side3 ?side4 ?side5 ?side6 A109.out).mono ?_); (case side1 => exact cr_ HO1338); (case side2 => exact (Kd.R_reads' HO1338.out).2.1); (case side3 => exact cr_ HO1341); (case side4 => exact (Kd.R_reads' HO1341.out).2.1); (case side5 => exact cr_ HO1344); (case side6 => exact (Kd.R_reads' HO1344.out).2.1); rintro e w125 ⟨v1346, v1349, v1352, rfl, ho0, ho1, ho2, hb⟩; refine ⟨_, rfl, ?_⟩; have n0_ := Aside0.mk (Kd.R_elder' (ra_ HO_1294000) (Kd.R_base ho0) hb); have n1_ := Aside0.mk (Kd.R_mono (Kd.R_told (Kd.R_told (Kd.R_old (ra_ HO_1294001) hb) (Kd.R_base ho1)) (Kd.R_base ho2)) (fun _ h_ => h_.1)); have n2_ := Aside0.mk (Kd.R_mono (Kd.R_told (Kd.R_told (Kd.R_old (ra_ HO_1294002) hb) (Kd.R_base ho1)) (Kd.R_base ho2)) (fun _ h_ => h_.1)); have n3_ := Aside0.mk (Kd.R_elder' (ra_ HO_1304000) (Kd.R_base ho0) hb); have n4_ := Aside0.mk (Kd.R_mono (Kd.R_told (Kd.R_told (Kd.R_old (ra_ HO_1304001) hb) (Kd.R_base ho1)) (Kd.R_base ho2)) (fun _ h_ => h_.1)); have n5_ := Aside0.mk (Kd.R_mono (Kd.R_told (Kd.R_told (Kd.R_old (ra_ HO_1304002) hb) (Kd.R_base ho1)) (Kd.R_base ho2)) (fun _ h_ => h_.1)); have n6_ := Aside0.mk (Kd.R_elder' (ra_ HO_1315000) (Kd.R_base ho0) hb); have n7_ := Aside0.mk (Kd.R_mono (Kd.R_told (Kd.R_told (Kd.R_old (ra_ HO_1315001) hb) (Kd.R_base ho1)) (Kd.R_base ho2)) (fun _ h_ => h_.1)); have n8_ := Aside0.mk (Kd.R_mono (Kd.R_told (Kd.R_told (Kd.R_old (ra_ HO_1315002) hb) (Kd.R_base ho1)) (Kd.R_base ho2)) (fun _ h_ => h_.1)); have n9_ := Aside0.mk (Kd.R_elder' (ra_ HO1338) (Kd.R_base ho0) hb); have n10_ := Aside0.mk (Kd.R_mono (Kd.R_told (Kd.R_told (Kd.R_old (ra_ HO1341) hb) (Kd.R_base ho1)) (Kd.R_base ho2)) (fun _ h_ => h_.1)); have n11_ := Aside0.mk (Kd.R_mono (Kd.R_told (Kd.R_told (Kd.R_old (ra_ HO1344) hb) (Kd.R_base ho1)) (Kd.R_base ho2)) (fun _ h_ => h_.1)); have n12_ := Aside0.mk (Kd.R_lower (Kd.R_new' (Kd.R_new' (Kd.R_new' (Kd.R_new' ho0 (Kd.R_lt (ra_ HO_1294000))) (Kd.R_lt (ra_ HO_1304000))) (Kd.R_lt (ra_ HO_1315000))) (Kd.R_lt (ra_ HO1338))) (below_size (bb4_ HB GE1272 GE1293 GE1303 GE1314))); have n13_ := Aside0.mk (Kd.R_lower (Kd.R_new' (Kd.R_new' (Kd.R_new' (Kd.R_new' (Kd.R_new' (Kd.R_new' (Kd.R_new' (Kd.R_new' ho1 (Kd.R_lt (ra_ HO_1294001))) (Kd.R_lt (ra_ HO_1294002))) (Kd.R_lt (ra_ HO_1304001))) (Kd.R_lt (ra_ HO_1304002))) (Kd.R_lt (ra_ HO_1315001))) (Kd.R_lt (ra_ HO_1315002))) (Kd.R_lt (ra_ HO1341))) (Kd.R_lt (ra_ HO1344))) (below_size (bb4_ HB GE1272 GE1293 GE1303 GE1314))); have n14_ := Aside0.mk (Kd.R_lower (Kd.R_new' (Kd.R_new' (Kd.R_new' (Kd.R_new' (Kd.R_new' (Kd.R_new' (Kd.R_new' (Kd.R_new' ho2 (Kd.R_lt (ra_ HO_1294001))) (Kd.R_lt (ra_ HO_1294002))) (Kd.R_lt (ra_ HO_1304001))) (Kd.R_lt (ra_ HO_1304002))) (Kd.R_lt (ra_ HO_1315001))) (Kd.R_lt (ra_ HO_1315002))) (Kd.R_lt (ra_ HO1341))) (Kd.R_lt (ra_ HO1344))) (below_size (bb4_ HB GE1272 GE1293 GE1303 GE1314))); have n15_ := Aside0.mk (lb_ BK1272 hb); have n16_ := Aside0.mk (lb_ BK1293 hb); have n17_ := Aside0.mk (lb_ BK1303 hb); have n18_ := Aside0.mk (lb_ BK1314 hb); have n19_ := Aside0.mk (below_step (bb4_ HB GE1272 GE1293 GE1303 GE1314) hb); clear HO_1294000; clear HO_1294001; clear HO_1294002; clear HO_1304000; clear HO_1304001; clear HO_1304002; clear HO_1315000; clear HO_1315001; clear HO_1315002; clear HO1338; clear HO1341; clear HO1344; clear BK1272; clear BK1293; clear BK1303; clear BK1314; clear HB; have HO_1294000 := n0_; have HO_1294001 := n1_; have HO_1294002 := n2_; have HO_1304000 := n3_; have HO_1304001 := n4_; have HO_1304002 := n5_; have HO_1315000 := n6_; have HO_1315001 := n7_; have HO_1315002 := n8_; have HO1338 := n9_; have HO1341 := n10_; have HO1344 := n11_; have HO1347 := n12_; have HO1350 := n13_; have HO1353 := n14_; have BK1272 := n15_; have BK1293 := n16_; have BK1303 := n17_; have BK1314 := n18_; have HB := n19_; clear n0_ n1_ n2_ n3_ n4_ n5_ n6_ n7_ n8_ n9_ n10_ n11_ n12_ n13_ n14_ n15_ n16_ n17_ n18_ n19_; (try clear hb); (try clear hb2); (try clear hk); (try clear hi); (try clear ho0); (try clear ho1); (try clear ho2)) | ((with_reducible refine gate_dst (N := 16) rfl ?_); refine box_event ?hg (N := 16) ?hd (cs := #[.slice none 0 0, .slice none 0 0, .slice none 0 0]) (t := 35) ?hr ?_; (case hd => rfl); (case hg => rfl); (case hr => first | (go_simp; done) | (go_simp; rfl)); intro gb1355 hg w126 hbox hb; have n0_ := Aside0.mk (Kd.R_below (ra_ HO_1294000) hb); have n1_ := Aside0.mk (Kd.R_below (ra_ HO_1294001) hb); have n2_ := Aside0.mk (Kd.R_below (ra_ HO_1294002) hb); have n3_ := Aside0.mk (Kd.R_below (ra_ HO_1304000) hb); have n4_ := Aside0.mk (Kd.R_below (ra_ HO_1304001) hb); have n5_ := Aside0.mk (Kd.R_below (ra_ HO_1304002) hb); have n6_ := Aside0.mk (Kd.R_below (ra_ HO_1315000) hb); have n7_ := Aside0.mk (Kd.R_below (ra_ HO_1315001) hb); have n8_ := Aside0.mk (Kd.R_below (ra_ HO_1315002) hb); have n9_ := Aside0.mk (Kd.R_below (ra_ HO1338) hb); have n10_ := Aside0.mk (Kd.R_below (ra_ HO1341) hb); have n11_ := Aside0.mk (Kd.R_below (ra_ HO1344) hb); have n12_ := Aside0.mk (Kd.R_below (ra_ HO1347) hb); have n13_ := Aside0.mk (Kd.R_below (ra_ HO1350) hb); have n14_ := Aside0.mk (Kd.R_below (ra_ HO1353) hb); have n15_ := Aside0.mk (lb_ BK1272 hb); have n16_ := Aside0.mk (lb_ BK1293 hb); have n17_ := Aside0.mk (lb_ BK1303 hb); have n18_ := Aside0.mk (lb_ BK1314 hb); have n19_ := Aside0.mk (below_step (bb4_ HB GE1272 GE1293 GE1303 GE1314) hb); have n20_ := Aside0.mk (hbox); have n21_ := gy_ hg (bb4_ HB GE1272 GE1293 GE1303 GE1314); have n22_ := gy_ hg (bb4_ HB GE1272 GE1293 GE1303 GE1314); have n23_ := nl_ hg BK1272; have n24_ := ng_ hg BK1272; have n25_ := nl_ hg BK1293; have n26_ := ng_ hg BK1293; have n27_ := nl_ hg BK1303; have n28_ := ng_ hg BK1303; have n29_ := nl_ hg BK1314; have n30_ := ng_ hg BK1314; clear HO_1294000; clear HO_1294001; clear HO_1294002; clear HO_1304000; clear HO_1304001; clear HO_1304002; clear HO_1315000; clear HO_1315001; clear HO_1315002; clear HO1338; clear HO1341; clear HO1344; clear HO1347; clear HO1350; clear HO1353; clear BK1272; clear BK1293; clear BK1303; clear BK1314; clear HB; have HO_1294000 := n0_; have HO_1294001 := n1_; have HO_1294002 := n2_; have HO_1304000 := n3_; have HO_1304001 := n4_; have HO_1304002 := n5_; have HO_1315000 := n6_; have HO_1315001 := n7_; have HO_1315002 := n8_; have HO1338 := n9_; have HO1341 := n10_; have HO1344 := n11_; have HO1347 := n12_; have HO1350 := n13_; have HO1353 := n14_; have BK1272 := n15_; have BK1293 := n16_; have BK1303 := n17_; have BK1314 := n18_; have HB := n19_; have BK1355 := n20_; have GW1355 := n21_; have GE1355 := n22_; have NB1272_1355 := n23_; have NB1355_1272 := n24_; have NB1293_1355 := n25_; have NB1355_1293 := n26_; have NB1303_1355 := n27_; have NB1355_1303 := n28_; have NB1314_1355 := n29_; have NB1355_1314 := n30_; clear n0_ n1_ n2_ n3_ n4_ n5_ n6_ n7_ n8_ n9_ n10_ n11_ n12_ n13_ n14_ n15_ n16_ n17_ n18_ n19_ n20_ n21_ n22_ n23_ n24_ n25_ n26_ n27_ n28_ n29_ n30_; clear hb hbox hg; obtain ⟨Ao127, co127, eo127⟩ := Kd.R_slice HO1347.out; subst eo127; have hnb128 := NB1355_1272.out; have hnc128 := NB1272_1355.out; have hnb129 := NB1355_1293.out; have hnc129 := NB1293_1355.out; have hnb130 := NB1355_1303.out; have hnc130 := NB1303_1355.out; have hnb131 := NB1355_1314.out; have hnc131 := NB1314_1355.out; have hcz132_0 := cz0_ BK1355; have hcz132_1 := cz1_ BK1355; have hcz132_2 := cz2_ BK1355; have hfz132_0 := fz_ BK1355 0; have hfz132_1 := fz_ BK1355 1; have hfz132_2 := fz_ BK1355 2; obtain ⟨Ao133, co133, eo133⟩ := Kd.R_slice HO1350.out; subst eo133; obtain ⟨Ao134, co134, eo134⟩ := Kd.R_slice HO1353.out; subst eo134))
            (try simp only [Act.put, sA_, sB_, sC_])
            go_cut [100] (fun v100 wc => ∃ (kq : Nat) (x100_109 : Bool), v100 = .bool x100_109 ∧ Aside0 (laws_FnExactReplaceItem.j2 kq t1331 x100_109 t1332 t1333 t1334 = some r) ∧ Aside0 (kq ≤ kj71) ∧ Aside0 (Kd.R Kd.string 9 wc w.heap.size (fun k_ => some k_ ≠ ((.slice Ao34 t1327.length co34) : Value).ownBlock ∧ some k_ ≠ ((.slice Ao42 t1304.length co42) : Value).ownBlock ∧ some k_ ≠ ((.slice Ao127 t1345.length co127) : Value).ownBlock) (.slice Ao26 t1283.length co26) t1283) ∧ Aside0 (Kd.R k25 25 wc w.heap.size (fun k_ => some k_ ≠ ((.slice Ao30 t1289.length co30) : Value).ownBlock ∧ some k_ ≠ ((.slice Ao38 t1328.length co38) : Value).ownBlock ∧ some k_ ≠ ((.slice Ao39 t1329.length co39) : Value).ownBlock ∧ some k_ ≠ ((.slice Ao47 t1307.length co47) : Value).ownBlock ∧ some k_ ≠ ((.slice Ao48 t1310.length co48) : Value).ownBlock ∧ some k_ ≠ ((.slice Ao133 t1348.length co133) : Value).ownBlock ∧ some k_ ≠ ((.slice Ao134 t1351.length co134) : Value).ownBlock) (.slice Ao29 t1286.length co29) t1286) ∧ Aside0 (Kd.R k25 25 wc w.heap.size (fun k_ => some k_ ≠ ((.slice Ao29 t1286.length co29) : Value).ownBlock ∧ some k_ ≠ ((.slice Ao38 t1328.length co38) : Value).ownBlock ∧ some k_ ≠ ((.slice Ao39 t1329.length co39) : Value).ownBlock ∧ some k_ ≠ ((.slice Ao47 t1307.length co47) : Value).ownBlock ∧ some k_ ≠ ((.slice Ao48 t1310.length co48) : Value).ownBlock ∧ some k_ ≠ ((.slice Ao133 t1348.length co133) : Value).ownBlock ∧ some k_ ≠ ((.slice Ao134 t1351.length co134) : Value).ownBlock) (.slice Ao30 t1289.length co30) t1289) ∧ Aside0 (Kd.R Kd.string 9 wc w.heap.size (fun k_ => some k_ ≠ ((.slice Ao26 t1283.length co26) : Value).ownBlock ∧ some k_ ≠ ((.slice Ao42 t1304.length co42) : Value).ownBlock ∧ some k_ ≠ ((.slice Ao127 t1345.length co127) : Value).ownBlock) (.slice Ao34 t1327.length co34) t1327) ∧ Aside0 (Kd.R k25 25 wc w.heap.size (fun k_ => some k_ ≠ ((.slice Ao29 t1286.length co29) : Value).ownBlock ∧ some k_ ≠ ((.slice Ao30 t1289.length co30) : Value).ownBlock ∧ some k_ ≠ ((.slice Ao39 t1329.length co39) : Value).ownBlock ∧ some k_ ≠ ((.slice Ao47 t1307.length co47) : Value).ownBlock ∧ some k_ ≠ ((.slice Ao48 t1310.length co48) : Value).ownBlock ∧ some k_ ≠ ((.slice Ao133 t1348.length co133) : Value).ownBlock ∧ some k_ ≠ ((.slice Ao134 t1351.length co134) : Value).ownBlock) (.slice Ao38 t1328.length co38) t1328) ∧ Aside0 (Kd.R k25 25 wc w.heap.size (fun k_ => some k_ ≠ ((.slice Ao29 t1286.length co29) : Value).ownBlock ∧ some k_ ≠ ((.slice Ao30 t1289.length co30) : Value).ownBlock ∧ some k_ ≠ ((.slice Ao38 t1328.length co38) : Value).ownBlock ∧ some k_ ≠ ((.slice Ao47 t1307.length co47) : Value).ownBlock ∧ some k_ ≠ ((.slice Ao48 t1310.length co48) : Value).ownBlock ∧ some k_ ≠ ((.slice Ao133 t1348.length co133) : Value).ownBlock ∧ some k_ ≠ ((.slice Ao134 t1351.length co134) : Value).ownBlock) (.slice Ao39 t1329.length co39) t1329) ∧ Aside0 (Kd.R Kd.string 9 wc w.heap.size (fun k_ => some k_ ≠ ((.slice Ao26 t1283.length co26) : Value).ownBlock ∧ some k_ ≠ ((.slice Ao34 t1327.length co34) : Value).ownBlock ∧ some k_ ≠ ((.slice Ao127 t1345.length co127) : Value).ownBlock) (.slice Ao42 t1304.length co42) t1332) ∧ Aside0 (Kd.R k25 25 wc w.heap.size (fun k_ => some k_ ≠ ((.slice Ao29 t1286.length co29) : Value).ownBlock ∧ some k_ ≠ ((.slice Ao30 t1289.length co30) : Value).ownBlock ∧ some k_ ≠ ((.slice Ao38 t1328.length co38) : Value).ownBlock ∧ some k_ ≠ ((.slice Ao39 t1329.length co39) : Value).ownBlock ∧ some k_ ≠ ((.slice Ao48 t1310.length co48) : Value).ownBlock ∧ some k_ ≠ ((.slice Ao133 t1348.length co133) : Value).ownBlock ∧ some k_ ≠ ((.slice Ao134 t1351.length co134) : Value).ownBlock) (.slice Ao47 t1307.length co47) t1333) ∧ Aside0 (Kd.R k25 25 wc w.heap.size (fun k_ => some k_ ≠ ((.slice Ao29 t1286.length co29) : Value).ownBlock ∧ some k_ ≠ ((.slice Ao30 t1289.length co30) : Value).ownBlock ∧ some k_ ≠ ((.slice Ao38 t1328.length co38) : Value).ownBlock ∧ some k_ ≠ ((.slice Ao39 t1329.length co39) : Value).ownBlock ∧ some k_ ≠ ((.slice Ao47 t1307.length co47) : Value).ownBlock ∧ some k_ ≠ ((.slice Ao133 t1348.length co133) : Value).ownBlock ∧ some k_ ≠ ((.slice Ao134 t1351.length co134) : Value).ownBlock) (.slice Ao48 t1310.length co48) t1334) ∧ Aside0 (Kd.R Kd.string 9 wc w.heap.size (fun k_ => some k_ ≠ ((.slice Ao26 t1283.length co26) : Value).ownBlock ∧ some k_ ≠ ((.slice Ao34 t1327.length co34) : Value).ownBlock ∧ some k_ ≠ ((.slice Ao42 t1304.length co42) : Value).ownBlock) (.slice Ao127 t1345.length co127) t1345) ∧ Aside0 (Kd.R k25 25 wc w.heap.size (fun k_ => some k_ ≠ ((.slice Ao29 t1286.length co29) : Value).ownBlock ∧ some k_ ≠ ((.slice Ao30 t1289.length co30) : Value).ownBlock ∧ some k_ ≠ ((.slice Ao38 t1328.length co38) : Value).ownBlock ∧ some k_ ≠ ((.slice Ao39 t1329.length co39) : Value).ownBlock ∧ some k_ ≠ ((.slice Ao47 t1307.length co47) : Value).ownBlock ∧ some k_ ≠ ((.slice Ao48 t1310.length co48) : Value).ownBlock ∧ some k_ ≠ ((.slice Ao134 t1351.length co134) : Value).ownBlock) (.slice Ao133 t1348.length co133) t1348) ∧ Aside0 (Kd.R k25 25 wc w.heap.size (fun k_ => some k_ ≠ ((.slice Ao29 t1286.length co29) : Value).ownBlock ∧ some k_ ≠ ((.slice Ao30 t1289.length co30) : Value).ownBlock ∧ some k_ ≠ ((.slice Ao38 t1328.length co38) : Value).ownBlock ∧ some k_ ≠ ((.slice Ao39 t1329.length co39) : Value).ownBlock ∧ some k_ ≠ ((.slice Ao47 t1307.length co47) : Value).ownBlock ∧ some k_ ≠ ((.slice Ao48 t1310.length co48) : Value).ownBlock ∧ some k_ ≠ ((.slice Ao133 t1348.length co133) : Value).ownBlock) (.slice Ao134 t1351.length co134) t1351) ∧ Aside0 (wc.heap[gb1272]? = some (.cells #[(.slice A0_0 l0_0.length c0_0), (.slice A0_1 l0_1.length c0_1), (.slice A0_2 l0_2.length c0_2)] 45 (0, 0))) ∧ Aside0 (wc.heap[gb1293]? = some (.cells #[(.slice Ao26 t1283.length co26), (.slice Ao29 t1286.length co29), (.slice Ao30 t1289.length co30)] 35 (0, 0))) ∧ Aside0 (wc.heap[gb1303]? = some (.cells #[(.slice Ao34 t1327.length co34), (.slice Ao38 t1328.length co38), (.slice Ao39 t1329.length co39)] 35 (0, 0))) ∧ Aside0 (wc.heap[gb1314]? = some (.cells #[(.slice Ao42 t1304.length co42), (.slice Ao47 t1307.length co47), (.slice Ao48 t1310.length co48)] 35 (0, 0))) ∧ Aside0 (wc.heap[gb1355]? = some (.cells #[(.slice Ao127 t1345.length co127), (.slice Ao133 t1348.length co133), (.slice Ao134 t1351.length co134)] 35 (0, 0))) ∧ Aside0 (Below w.heap.size w wc))
            case first =>
             have H := HC110.out
             clear HC110
             replace H := Option.bind_eq_some_iff.mp H
             obtain ⟨t1356, A1350, H⟩ := H
             try dsimp only at H
             have A135 := Aside0.mk A1350
             clear A1350
             by_cases c136 : t1356 = true
             ·subst c136
              have H1 : (laws_FnExactReplaceItem.j2 kj71 t1331 (t1354 != t1292) t1332 t1333 t1334) = some r := by rw [if_pos rfl] at H; exact H
              clear H
              have H := H1
              clear H1
              have H' := Aside0.mk H
              clear H
              have hnb137 := NB1355_1272.out
              have hnc137 := NB1272_1355.out
              have hnb138 := NB1355_1293.out
              have hnc138 := NB1293_1355.out
              have hnb139 := NB1355_1303.out
              have hnc139 := NB1303_1355.out
              have hnb140 := NB1355_1314.out
              have hnc140 := NB1314_1355.out
              have hcz141_0 := cz0_ BK1355
              have hcz141_1 := cz1_ BK1355
              have hcz141_2 := cz2_ BK1355
              have hfz141_0 := fz_ BK1355 0
              have hfz141_1 := fz_ BK1355 1
              have hfz141_2 := fz_ BK1355 2
              have hnb142 := NB1293_1272.out
              have hnc142 := NB1272_1293.out
              have hnb143 := NB1293_1303.out
              have hnc143 := NB1303_1293.out
              have hnb144 := NB1293_1314.out
              have hnc144 := NB1314_1293.out
              have hcz145_0 := cz0_ BK1293
              have hcz145_1 := cz1_ BK1293
              have hcz145_2 := cz2_ BK1293
              have hfz145_0 := fz_ BK1293 0
              have hfz145_1 := fz_ BK1293 1
              have hfz145_2 := fz_ BK1293 2
              go_wp2_with (first | ((with_reducible refine gate_callee (f := 23) rfl ?_); refine goesL_ (some 94) rfl rfl Try.func23 (by kernel_rfl) rfl #[.agg #[.slice Ao127 t1345.length co127, .slice Ao133 t1348.length co133, .slice Ao134 t1351.length co134], .agg #[.slice Ao26 t1283.length co26, .slice Ao29 t1286.length co29, .slice Ao30 t1289.length co30]] rfl args_ ?_; (with_reducible refine (laws_eqDesk.calls kj71 _ _ t1345 _ _ t1348 _ _ t1351 _ _ t1283 _ _ t1286 _ _ t1289 true _ ?side1 ?side2 ?side3 ?side4 ?side5 ?side6 ?side7 ?side8 ?side9 ?side10 ?side11 ?side12 A135.out).mono ?_); (case side1 => refine (Kd.R_reads' (e := 9) (base := w.heap.size) (ok := fun k_ => ((((True ∧ some k_ ≠ (.slice Ao26 t1283.length co26 : Value).ownBlock) ∧ some k_ ≠ (.slice Ao34 t1327.length co34 : Value).ownBlock) ∧ some k_ ≠ (.slice Ao42 t1304.length co42 : Value).ownBlock) ∧ some k_ ≠ (.slice Ao122 t1336.length co122 : Value).ownBlock)) (n := t1345.length) (c := co127) ?_).2.2; exact (rf_ (fm_ (fr_ (fr_ (fr_ (ft_ HO1347 BK1355) 0 (.slice Ao127 t1345.length co127)) 1 (.slice Ao133 t1348.length co133)) 2 (.slice Ao134 t1351.length co134))))); (case side2 => exact (Kd.R_reads' HO1347.out).2.1); (case side3 => refine (Kd.R_reads' (e := 25) (base := w.heap.size) (ok := fun k_ => ((((((((some k_ ≠ (.slice Ao134 t1351.length co134 : Value).ownBlock ∧ some k_ ≠ (.slice Ao29 t1286.length co29 : Value).ownBlock) ∧ some k_ ≠ (.slice Ao30 t1289.length co30 : Value).ownBlock) ∧ some k_ ≠ (.slice Ao38 t1328.length co38 : Value).ownBlock) ∧ some k_ ≠ (.slice Ao39 t1329.length co39 : Value).ownBlock) ∧ some k_ ≠ (.slice Ao47 t1307.length co47 : Value).ownBlock) ∧ some k_ ≠ (.slice Ao48 t1310.length co48 : Value).ownBlock) ∧ some k_ ≠ (.slice Ao123 t1339.length co123 : Value).ownBlock) ∧ some k_ ≠ (.slice Ao124 t1342.length co124 : Value).ownBlock)) (n := t1348.length) (c := co133) ?_).2.2; exact (rf_ (fm_ (fr_ (fr_ (fr_ (ft_ HO1350 BK1355) 0 (.slice Ao127 t1345.length co127)) 1 (.slice Ao133 t1348.length co133)) 2 (.slice Ao134 t1351.length co134))))); (case side4 => exact (Kd.R_reads' HO1350.out).2.1); (case side5 => refine (Kd.R_reads' (e := 25) (base := w.heap.size) (ok := fun k_ => ((((((((some k_ ≠ (.slice Ao133 t1348.length co133 : Value).ownBlock ∧ some k_ ≠ (.slice Ao29 t1286.length co29 : Value).ownBlock) ∧ some k_ ≠ (.slice Ao30 t1289.length co30 : Value).ownBlock) ∧ some k_ ≠ (.slice Ao38 t1328.length co38 : Value).ownBlock) ∧ some k_ ≠ (.slice Ao39 t1329.length co39 : Value).ownBlock) ∧ some k_ ≠ (.slice Ao47 t1307.length co47 : Value).ownBlock) ∧ some k_ ≠ (.slice Ao48 t1310.length co48 : Value).ownBlock) ∧ some k_ ≠ (.slice Ao123 t1339.length co123 : Value).ownBlock) ∧ some k_ ≠ (.slice Ao124 t1342.length co124 : Value).ownBlock)) (n := t1351.length) (c := co134) ?_).2.2; exact (rf_ (fm_ (fr_ (fr_ (fr_ (ft_ HO1353 BK1355) 0 (.slice Ao127 t1345.length co127)) 1 (.slice Ao133 t1348.length co133)) 2 (.slice Ao134 t1351.length co134))))); (case side6 => exact (Kd.R_reads' HO1353.out).2.1); (case side7 => refine (Kd.R_reads' (e := 9) (base := w.heap.size) (ok := fun k_ => (((some k_ ≠ (.slice Ao34 t1327.length co34 : Value).ownBlock ∧ some k_ ≠ (.slice Ao42 t1304.length co42 : Value).ownBlock) ∧ some k_ ≠ (.slice Ao122 t1336.length co122 : Value).ownBlock) ∧ some k_ ≠ (.slice Ao127 t1345.length co127 : Value).ownBlock)) (n := t1283.length) (c := co26) ?_).2.2; exact (rf_ (fm_ (fr_ (fr_ (fr_ (ft_ HO_1294000 BK1355) 0 (.slice Ao127 t1345.length co127)) 1 (.slice Ao133 t1348.length co133)) 2 (.slice Ao134 t1351.length co134))))); (case side8 => exact (Kd.R_reads' HO_1294000.out).2.1); (case side9 => refine (Kd.R_reads' (e := 25) (base := w.heap.size) (ok := fun k_ => (((((some k_ ≠ (.slice Ao30 t1289.length co30 : Value).ownBlock ∧ (some k_ ≠ (.slice Ao38 t1328.length co38 : Value).ownBlock ∧ (some k_ ≠ (.slice Ao39 t1329.length co39 : Value).ownBlock ∧ (some k_ ≠ (.slice Ao47 t1307.length co47 : Value).ownBlock ∧ some k_ ≠ (.slice Ao48 t1310.length co48 : Value).ownBlock)))) ∧ some k_ ≠ (.slice Ao123 t1339.length co123 : Value).ownBlock) ∧ some k_ ≠ (.slice Ao124 t1342.length co124 : Value).ownBlock) ∧ some k_ ≠ (.slice Ao133 t1348.length co133 : Value).ownBlock) ∧ some k_ ≠ (.slice Ao134 t1351.length co134 : Value).ownBlock)) (n := t1286.length) (c := co29) ?_).2.2; exact (rf_ (fm_ (fr_ (fr_ (fr_ (ft_ HO_1294001 BK1355) 0 (.slice Ao127 t1345.length co127)) 1 (.slice Ao133 t1348.length co133)) 2 (.slice Ao134 t1351.length co134))))); (case side10 => exact (Kd.R_reads' HO_1294001.out).2.1); (case side11 => refine (Kd.R_reads' (e := 25) (base := w.heap.size) (ok := fun k_ => (((((some k_ ≠ (.slice Ao29 t1286.length co29 : Value).ownBlock ∧ (some k_ ≠ (.slice Ao38 t1328.length co38 : Value).ownBlock ∧ (some k_ ≠ (.slice Ao39 t1329.length co39 : Value).ownBlock ∧ (some k_ ≠ (.slice Ao47 t1307.length co47 : Value).ownBlock ∧ some k_ ≠ (.slice Ao48 t1310.length co48 : Value).ownBlock)))) ∧ some k_ ≠ (.slice Ao123 t1339.length co123 : Value).ownBlock) ∧ some k_ ≠ (.slice Ao124 t1342.length co124 : Value).ownBlock) ∧ some k_ ≠ (.slice Ao133 t1348.length co133 : Value).ownBlock) ∧ some k_ ≠ (.slice Ao134 t1351.length co134 : Value).ownBlock)) (n := t1289.length) (c := co30) ?_).2.2; exact (rf_ (fm_ (fr_ (fr_ (fr_ (ft_ HO_1294002 BK1355) 0 (.slice Ao127 t1345.length co127)) 1 (.slice Ao133 t1348.length co133)) 2 (.slice Ao134 t1351.length co134))))); (case side12 => exact (Kd.R_reads' HO_1294002.out).2.1); rintro e w146 ⟨rfl, hb⟩; refine ⟨_, rfl, ?_⟩; have n0_ := Aside0.mk (Kd.R_below (rf_ (fm_ (fr_ (fr_ (fr_ (ft_ HO_1294000 BK1355) 0 (.slice Ao127 t1345.length co127)) 1 (.slice Ao133 t1348.length co133)) 2 (.slice Ao134 t1351.length co134)))) hb); have n1_ := Aside0.mk (Kd.R_below (rf_ (fm_ (fr_ (fr_ (fr_ (ft_ HO_1294001 BK1355) 0 (.slice Ao127 t1345.length co127)) 1 (.slice Ao133 t1348.length co133)) 2 (.slice Ao134 t1351.length co134)))) hb); have n2_ := Aside0.mk (Kd.R_below (rf_ (fm_ (fr_ (fr_ (fr_ (ft_ HO_1294002 BK1355) 0 (.slice Ao127 t1345.length co127)) 1 (.slice Ao133 t1348.length co133)) 2 (.slice Ao134 t1351.length co134)))) hb); have n3_ := Aside0.mk (Kd.R_below (rf_ (fm_ (fr_ (fr_ (fr_ (ft_ HO_1304000 BK1355) 0 (.slice Ao127 t1345.length co127)) 1 (.slice Ao133 t1348.length co133)) 2 (.slice Ao134 t1351.length co134)))) hb); have n4_ := Aside0.mk (Kd.R_below (rf_ (fm_ (fr_ (fr_ (fr_ (ft_ HO_1304001 BK1355) 0 (.slice Ao127 t1345.length co127)) 1 (.slice Ao133 t1348.length co133)) 2 (.slice Ao134 t1351.length co134)))) hb); have n5_ := Aside0.mk (Kd.R_below (rf_ (fm_ (fr_ (fr_ (fr_ (ft_ HO_1304002 BK1355) 0 (.slice Ao127 t1345.length co127)) 1 (.slice Ao133 t1348.length co133)) 2 (.slice Ao134 t1351.length co134)))) hb); have n6_ := Aside0.mk (Kd.R_below (rf_ (fm_ (fr_ (fr_ (fr_ (ft_ HO_1315000 BK1355) 0 (.slice Ao127 t1345.length co127)) 1 (.slice Ao133 t1348.length co133)) 2 (.slice Ao134 t1351.length co134)))) hb); have n7_ := Aside0.mk (Kd.R_below (rf_ (fm_ (fr_ (fr_ (fr_ (ft_ HO_1315001 BK1355) 0 (.slice Ao127 t1345.length co127)) 1 (.slice Ao133 t1348.length co133)) 2 (.slice Ao134 t1351.length co134)))) hb); have n8_ := Aside0.mk (Kd.R_below (rf_ (fm_ (fr_ (fr_ (fr_ (ft_ HO_1315002 BK1355) 0 (.slice Ao127 t1345.length co127)) 1 (.slice Ao133 t1348.length co133)) 2 (.slice Ao134 t1351.length co134)))) hb); have n9_ := Aside0.mk (Kd.R_below (rf_ (fm_ (fr_ (fr_ (fr_ (ft_ HO1338 BK1355) 0 (.slice Ao127 t1345.length co127)) 1 (.slice Ao133 t1348.length co133)) 2 (.slice Ao134 t1351.length co134)))) hb); have n10_ := Aside0.mk (Kd.R_below (rf_ (fm_ (fr_ (fr_ (fr_ (ft_ HO1341 BK1355) 0 (.slice Ao127 t1345.length co127)) 1 (.slice Ao133 t1348.length co133)) 2 (.slice Ao134 t1351.length co134)))) hb); have n11_ := Aside0.mk (Kd.R_below (rf_ (fm_ (fr_ (fr_ (fr_ (ft_ HO1344 BK1355) 0 (.slice Ao127 t1345.length co127)) 1 (.slice Ao133 t1348.length co133)) 2 (.slice Ao134 t1351.length co134)))) hb); have n12_ := Aside0.mk (Kd.R_below (rf_ (fm_ (fr_ (fr_ (fr_ (ft_ HO1347 BK1355) 0 (.slice Ao127 t1345.length co127)) 1 (.slice Ao133 t1348.length co133)) 2 (.slice Ao134 t1351.length co134)))) hb); have n13_ := Aside0.mk (Kd.R_below (rf_ (fm_ (fr_ (fr_ (fr_ (ft_ HO1350 BK1355) 0 (.slice Ao127 t1345.length co127)) 1 (.slice Ao133 t1348.length co133)) 2 (.slice Ao134 t1351.length co134)))) hb); have n14_ := Aside0.mk (Kd.R_below (rf_ (fm_ (fr_ (fr_ (fr_ (ft_ HO1353 BK1355) 0 (.slice Ao127 t1345.length co127)) 1 (.slice Ao133 t1348.length co133)) 2 (.slice Ao134 t1351.length co134)))) hb); have n15_ := Aside0.mk (blk_below (g := gb1272) (o := .cells #[.slice A0_0 l0_0.length c0_0, .slice A0_1 l0_1.length c0_1, .slice A0_2 l0_2.length c0_2] 45 (0, 0)) (by (with_reducible repeat (first | apply lN_ | apply lD_ | apply lA_)); refine blk_far ?_ NB1272_1355.out _; (with_reducible repeat (first | apply lN_ | apply lD_ | apply lA_)); refine blk_far ?_ NB1272_1355.out _; (with_reducible repeat (first | apply lN_ | apply lD_ | apply lA_)); refine blk_far ?_ NB1272_1355.out _; (with_reducible repeat (first | apply lN_ | apply lD_ | apply lA_)); exact BK1272.out) hb); have n16_ := Aside0.mk (blk_below (g := gb1293) (o := .cells #[.slice Ao26 t1283.length co26, .slice Ao29 t1286.length co29, .slice Ao30 t1289.length co30] 35 (0, 0)) (by (with_reducible repeat (first | apply lN_ | apply lD_ | apply lA_)); refine blk_far ?_ NB1293_1355.out _; (with_reducible repeat (first | apply lN_ | apply lD_ | apply lA_)); refine blk_far ?_ NB1293_1355.out _; (with_reducible repeat (first | apply lN_ | apply lD_ | apply lA_)); refine blk_far ?_ NB1293_1355.out _; (with_reducible repeat (first | apply lN_ | apply lD_ | apply lA_)); exact BK1293.out) hb); have n17_ := Aside0.mk (blk_below (g := gb1303) (o := .cells #[.slice Ao34 t1327.length co34, .slice Ao38 t1328.length co38, .slice Ao39 t1329.length co39] 35 (0, 0)) (by (with_reducible repeat (first | apply lN_ | apply lD_ | apply lA_)); refine blk_far ?_ NB1303_1355.out _; (with_reducible repeat (first | apply lN_ | apply lD_ | apply lA_)); refine blk_far ?_ NB1303_1355.out _; (with_reducible repeat (first | apply lN_ | apply lD_ | apply lA_)); refine blk_far ?_ NB1303_1355.out _; (with_reducible repeat (first | apply lN_ | apply lD_ | apply lA_)); exact BK1303.out) hb); have n18_ := Aside0.mk (blk_below (g := gb1314) (o := .cells #[.slice Ao42 t1304.length co42, .slice Ao47 t1307.length co47, .slice Ao48 t1310.length co48] 35 (0, 0)) (by (with_reducible repeat (first | apply lN_ | apply lD_ | apply lA_)); refine blk_far ?_ NB1314_1355.out _; (with_reducible repeat (first | apply lN_ | apply lD_ | apply lA_)); refine blk_far ?_ NB1314_1355.out _; (with_reducible repeat (first | apply lN_ | apply lD_ | apply lA_)); refine blk_far ?_ NB1314_1355.out _; (with_reducible repeat (first | apply lN_ | apply lD_ | apply lA_)); exact BK1314.out) hb); have n19_ := Aside0.mk (blk_below (g := gb1355) (o := .cells #[.slice Ao127 t1345.length co127, .slice Ao133 t1348.length co133, .slice Ao134 t1351.length co134] 35 (0, 0)) (by (with_reducible repeat (first | apply lN_ | apply lD_ | apply lA_)); refine blk_put (cs := #[.slice Ao127 t1345.length co127, .slice Ao133 t1348.length co133, .slice none 0 0]) ?_ 2 _ rfl; (with_reducible repeat (first | apply lN_ | apply lD_ | apply lA_)); refine blk_put (cs := #[.slice Ao127 t1345.length co127, .slice none 0 0, .slice none 0 0]) ?_ 1 _ rfl; (with_reducible repeat (first | apply lN_ | apply lD_ | apply lA_)); refine blk_put (cs := #[.slice none 0 0, .slice none 0 0, .slice none 0 0]) ?_ 0 _ rfl; (with_reducible repeat (first | apply lN_ | apply lD_ | apply lA_)); exact BK1355.out) hb); have n20_ := Aside0.mk (below_step (by repeat (first | (with_reducible first | exact HB.out | apply bA_ | apply bN_ | apply bD_ | refine bS_ ?_ GE1272.out | refine bS_ ?_ GE1293.out | refine bS_ ?_ GE1303.out | refine bS_ ?_ GE1314.out | refine bS_ ?_ GE1355.out) | exact HB.out)) hb); clear HO_1294000; clear HO_1294001; clear HO_1294002; clear HO_1304000; clear HO_1304001; clear HO_1304002; clear HO_1315000; clear HO_1315001; clear HO_1315002; clear HO1338; clear HO1341; clear HO1344; clear HO1347; clear HO1350; clear HO1353; clear BK1272; clear BK1293; clear BK1303; clear BK1314; clear BK1355; clear HB; have HO_1294000 := n0_; have HO_1294001 := n1_; have HO_1294002 := n2_; have HO_1304000 := n3_; have HO_1304001 := n4_; have HO_1304002 := n5_; have HO_1315000 := n6_; have HO_1315001 := n7_; have HO_1315002 := n8_; have HO1338 := n9_; have HO1341 := n10_; have HO1344 := n11_; have HO1347 := n12_; have HO1350 := n13_; have HO1353 := n14_; have BK1272 := n15_; have BK1293 := n16_; have BK1303 := n17_; have BK1314 := n18_; have BK1355 := n19_; have HB := n20_; clear n0_ n1_ n2_ n3_ n4_ n5_ n6_ n7_ n8_ n9_ n10_ n11_ n12_ n13_ n14_ n15_ n16_ n17_ n18_ n19_ n20_; (try clear hb); (try clear hb2); (try clear hk); (try clear hi)))
              go_meet
              case rel => exact ⟨_, ((t1354 != t1292)), (by first | rfl | (simp; done) | (simp [*]; done)), H', ⟨by have := HJ14.out; have := HJ71.out; first | omega | exact Nat.le_refl _⟩, ⟨by (try simp only [hl1304000_71]); (try simp only [hl1304001_71]); (try simp only [hl1304002_71]); (with_reducible repeat (first | apply rA_ | apply rN_ | apply rD_)); exact Kd.R_mono HO_1294000.out (fun _ hk => ⟨hk.1.1.1, ⟨hk.1.1.2, hk.2⟩⟩)⟩, ⟨by (try simp only [hl1304000_71]); (try simp only [hl1304001_71]); (try simp only [hl1304002_71]); (with_reducible repeat (first | apply rA_ | apply rN_ | apply rD_)); exact Kd.R_mono HO_1294001.out (fun _ hk => ⟨hk.1.1.1.1.1, ⟨hk.1.1.1.1.2.1, ⟨hk.1.1.1.1.2.2.1, ⟨hk.1.1.1.1.2.2.2.1, ⟨hk.1.1.1.1.2.2.2.2, ⟨hk.1.2, hk.2⟩⟩⟩⟩⟩⟩)⟩, ⟨by (try simp only [hl1304000_71]); (try simp only [hl1304001_71]); (try simp only [hl1304002_71]); (with_reducible repeat (first | apply rA_ | apply rN_ | apply rD_)); exact Kd.R_mono HO_1294002.out (fun _ hk => ⟨hk.1.1.1.1.1, ⟨hk.1.1.1.1.2.1, ⟨hk.1.1.1.1.2.2.1, ⟨hk.1.1.1.1.2.2.2.1, ⟨hk.1.1.1.1.2.2.2.2, ⟨hk.1.2, hk.2⟩⟩⟩⟩⟩⟩)⟩, ⟨by (try simp only [hl1304000_71]); (try simp only [hl1304001_71]); (try simp only [hl1304002_71]); (with_reducible repeat (first | apply rA_ | apply rN_ | apply rD_)); exact Kd.R_mono HO_1304000.out (fun _ hk => ⟨hk.1.1.1, ⟨hk.1.1.2, hk.2⟩⟩)⟩, ⟨by (try simp only [hl1304000_71]); (try simp only [hl1304001_71]); (try simp only [hl1304002_71]); (with_reducible repeat (first | apply rA_ | apply rN_ | apply rD_)); exact Kd.R_mono HO_1304001.out (fun _ hk => ⟨hk.1.1.1.1.1, ⟨hk.1.1.1.1.2.1, ⟨hk.1.1.1.1.2.2.1, ⟨hk.1.1.1.1.2.2.2.1, ⟨hk.1.1.1.1.2.2.2.2, ⟨hk.1.2, hk.2⟩⟩⟩⟩⟩⟩)⟩, ⟨by (try simp only [hl1304000_71]); (try simp only [hl1304001_71]); (try simp only [hl1304002_71]); (with_reducible repeat (first | apply rA_ | apply rN_ | apply rD_)); exact Kd.R_mono HO_1304002.out (fun _ hk => ⟨hk.1.1.1.1.1, ⟨hk.1.1.1.1.2.1, ⟨hk.1.1.1.1.2.2.1, ⟨hk.1.1.1.1.2.2.2.1, ⟨hk.1.1.1.1.2.2.2.2, ⟨hk.1.2, hk.2⟩⟩⟩⟩⟩⟩)⟩, ⟨by (try simp only [hl1304000_71]); (try simp only [hl1304001_71]); (try simp only [hl1304002_71]); (with_reducible repeat (first | apply rA_ | apply rN_ | apply rD_)); exact Kd.R_mono HO_1315000.out (fun _ hk => ⟨hk.1.1.1, ⟨hk.1.1.2, hk.2⟩⟩)⟩, ⟨by (try simp only [hl1304000_71]); (try simp only [hl1304001_71]); (try simp only [hl1304002_71]); (with_reducible repeat (first | apply rA_ | apply rN_ | apply rD_)); exact Kd.R_mono HO_1315001.out (fun _ hk => ⟨hk.1.1.1.1.1, ⟨hk.1.1.1.1.2.1, ⟨hk.1.1.1.1.2.2.1, ⟨hk.1.1.1.1.2.2.2.1, ⟨hk.1.1.1.1.2.2.2.2, ⟨hk.1.2, hk.2⟩⟩⟩⟩⟩⟩)⟩, ⟨by (try simp only [hl1304000_71]); (try simp only [hl1304001_71]); (try simp only [hl1304002_71]); (with_reducible repeat (first | apply rA_ | apply rN_ | apply rD_)); exact Kd.R_mono HO_1315002.out (fun _ hk => ⟨hk.1.1.1.1.1, ⟨hk.1.1.1.1.2.1, ⟨hk.1.1.1.1.2.2.1, ⟨hk.1.1.1.1.2.2.2.1, ⟨hk.1.1.1.1.2.2.2.2, ⟨hk.1.2, hk.2⟩⟩⟩⟩⟩⟩)⟩, ⟨by (try simp only [hl1304000_71]); (try simp only [hl1304001_71]); (try simp only [hl1304002_71]); (with_reducible repeat (first | apply rA_ | apply rN_ | apply rD_)); exact Kd.R_mono HO1347.out (fun _ hk => ⟨hk.1.1.1.2, ⟨hk.1.1.2, hk.1.2⟩⟩)⟩, ⟨by (try simp only [hl1304000_71]); (try simp only [hl1304001_71]); (try simp only [hl1304002_71]); (with_reducible repeat (first | apply rA_ | apply rN_ | apply rD_)); exact Kd.R_mono HO1350.out (fun _ hk => ⟨hk.1.1.1.1.1.1.1.2, ⟨hk.1.1.1.1.1.1.2, ⟨hk.1.1.1.1.1.2, ⟨hk.1.1.1.1.2, ⟨hk.1.1.1.2, ⟨hk.1.1.2, hk.1.1.1.1.1.1.1.1⟩⟩⟩⟩⟩⟩)⟩, ⟨by (try simp only [hl1304000_71]); (try simp only [hl1304001_71]); (try simp only [hl1304002_71]); (with_reducible repeat (first | apply rA_ | apply rN_ | apply rD_)); exact Kd.R_mono HO1353.out (fun _ hk => ⟨hk.1.1.1.1.1.1.1.2, ⟨hk.1.1.1.1.1.1.2, ⟨hk.1.1.1.1.1.2, ⟨hk.1.1.1.1.2, ⟨hk.1.1.1.2, ⟨hk.1.1.2, hk.1.1.1.1.1.1.1.1⟩⟩⟩⟩⟩⟩)⟩, ⟨by (try simp only [hl1304000_71]); (try simp only [hl1304001_71]); (try simp only [hl1304002_71]); (with_reducible repeat (first | apply lN_ | apply lD_ | apply lA_)); exact BK1272.out⟩, ⟨by (try simp only [hl1304000_71]); (try simp only [hl1304001_71]); (try simp only [hl1304002_71]); (with_reducible repeat (first | apply lN_ | apply lD_ | apply lA_)); exact BK1293.out⟩, ⟨by (try simp only [hl1304000_71]); (try simp only [hl1304001_71]); (try simp only [hl1304002_71]); (with_reducible repeat (first | apply lN_ | apply lD_ | apply lA_)); exact BK1303.out⟩, ⟨by (try simp only [hl1304000_71]); (try simp only [hl1304001_71]); (try simp only [hl1304002_71]); (with_reducible repeat (first | apply lN_ | apply lD_ | apply lA_)); exact BK1314.out⟩, ⟨by (try simp only [hl1304000_71]); (try simp only [hl1304001_71]); (try simp only [hl1304002_71]); (with_reducible repeat (first | apply lN_ | apply lD_ | apply lA_)); exact BK1355.out⟩, ⟨by repeat (first | (with_reducible first | exact HB.out | apply bA_ | apply bN_ | apply bD_ | refine bS_ ?_ GE1272.out | refine bS_ ?_ GE1293.out | refine bS_ ?_ GE1303.out | refine bS_ ?_ GE1314.out | refine bS_ ?_ GE1355.out) | exact HB.out)⟩⟩
             ·replace c136 := Bool.eq_false_iff.mpr c136
              subst c136
              have H1 : (laws_FnExactReplaceItem.j2 kj71 t1331 true t1332 t1333 t1334) = some r := by rw [if_neg (show ¬ (false = true) by decide)] at H; exact H
              clear H
              have H := H1
              clear H1
              have H' := Aside0.mk H
              clear H
              have hnb147 := NB1355_1272.out
              have hnc147 := NB1272_1355.out
              have hnb148 := NB1355_1293.out
              have hnc148 := NB1293_1355.out
              have hnb149 := NB1355_1303.out
              have hnc149 := NB1303_1355.out
              have hnb150 := NB1355_1314.out
              have hnc150 := NB1314_1355.out
              have hcz151_0 := cz0_ BK1355
              have hcz151_1 := cz1_ BK1355
              have hcz151_2 := cz2_ BK1355
              have hfz151_0 := fz_ BK1355 0
              have hfz151_1 := fz_ BK1355 1
              have hfz151_2 := fz_ BK1355 2
              have hnb152 := NB1293_1272.out
              have hnc152 := NB1272_1293.out
              have hnb153 := NB1293_1303.out
              have hnc153 := NB1303_1293.out
              have hnb154 := NB1293_1314.out
              have hnc154 := NB1314_1293.out
              have hcz155_0 := cz0_ BK1293
              have hcz155_1 := cz1_ BK1293
              have hcz155_2 := cz2_ BK1293
              have hfz155_0 := fz_ BK1293 0
              have hfz155_1 := fz_ BK1293 1
              have hfz155_2 := fz_ BK1293 2
              go_wp2_with (first | ((with_reducible refine gate_callee (f := 23) rfl ?_); refine goesL_ (some 94) rfl rfl Try.func23 (by kernel_rfl) rfl #[.agg #[.slice Ao127 t1345.length co127, .slice Ao133 t1348.length co133, .slice Ao134 t1351.length co134], .agg #[.slice Ao26 t1283.length co26, .slice Ao29 t1286.length co29, .slice Ao30 t1289.length co30]] rfl args_ ?_; (with_reducible refine (laws_eqDesk.calls kj71 _ _ t1345 _ _ t1348 _ _ t1351 _ _ t1283 _ _ t1286 _ _ t1289 false _ ?side1 ?side2 ?side3 ?side4 ?side5 ?side6 ?side7 ?side8 ?side9 ?side10 ?side11 ?side12 A135.out).mono ?_); (case side1 => refine (Kd.R_reads' (e := 9) (base := w.heap.size) (ok := fun k_ => ((((True ∧ some k_ ≠ (.slice Ao26 t1283.length co26 : Value).ownBlock) ∧ some k_ ≠ (.slice Ao34 t1327.length co34 : Value).ownBlock) ∧ some k_ ≠ (.slice Ao42 t1304.length co42 : Value).ownBlock) ∧ some k_ ≠ (.slice Ao122 t1336.length co122 : Value).ownBlock)) (n := t1345.length) (c := co127) ?_).2.2; exact (rf_ (fm_ (fr_ (fr_ (fr_ (ft_ HO1347 BK1355) 0 (.slice Ao127 t1345.length co127)) 1 (.slice Ao133 t1348.length co133)) 2 (.slice Ao134 t1351.length co134))))); (case side2 => exact (Kd.R_reads' HO1347.out).2.1); (case side3 => refine (Kd.R_reads' (e := 25) (base := w.heap.size) (ok := fun k_ => ((((((((some k_ ≠ (.slice Ao134 t1351.length co134 : Value).ownBlock ∧ some k_ ≠ (.slice Ao29 t1286.length co29 : Value).ownBlock) ∧ some k_ ≠ (.slice Ao30 t1289.length co30 : Value).ownBlock) ∧ some k_ ≠ (.slice Ao38 t1328.length co38 : Value).ownBlock) ∧ some k_ ≠ (.slice Ao39 t1329.length co39 : Value).ownBlock) ∧ some k_ ≠ (.slice Ao47 t1307.length co47 : Value).ownBlock) ∧ some k_ ≠ (.slice Ao48 t1310.length co48 : Value).ownBlock) ∧ some k_ ≠ (.slice Ao123 t1339.length co123 : Value).ownBlock) ∧ some k_ ≠ (.slice Ao124 t1342.length co124 : Value).ownBlock)) (n := t1348.length) (c := co133) ?_).2.2; exact (rf_ (fm_ (fr_ (fr_ (fr_ (ft_ HO1350 BK1355) 0 (.slice Ao127 t1345.length co127)) 1 (.slice Ao133 t1348.length co133)) 2 (.slice Ao134 t1351.length co134))))); (case side4 => exact (Kd.R_reads' HO1350.out).2.1); (case side5 => refine (Kd.R_reads' (e := 25) (base := w.heap.size) (ok := fun k_ => ((((((((some k_ ≠ (.slice Ao133 t1348.length co133 : Value).ownBlock ∧ some k_ ≠ (.slice Ao29 t1286.length co29 : Value).ownBlock) ∧ some k_ ≠ (.slice Ao30 t1289.length co30 : Value).ownBlock) ∧ some k_ ≠ (.slice Ao38 t1328.length co38 : Value).ownBlock) ∧ some k_ ≠ (.slice Ao39 t1329.length co39 : Value).ownBlock) ∧ some k_ ≠ (.slice Ao47 t1307.length co47 : Value).ownBlock) ∧ some k_ ≠ (.slice Ao48 t1310.length co48 : Value).ownBlock) ∧ some k_ ≠ (.slice Ao123 t1339.length co123 : Value).ownBlock) ∧ some k_ ≠ (.slice Ao124 t1342.length co124 : Value).ownBlock)) (n := t1351.length) (c := co134) ?_).2.2; exact (rf_ (fm_ (fr_ (fr_ (fr_ (ft_ HO1353 BK1355) 0 (.slice Ao127 t1345.length co127)) 1 (.slice Ao133 t1348.length co133)) 2 (.slice Ao134 t1351.length co134))))); (case side6 => exact (Kd.R_reads' HO1353.out).2.1); (case side7 => refine (Kd.R_reads' (e := 9) (base := w.heap.size) (ok := fun k_ => (((some k_ ≠ (.slice Ao34 t1327.length co34 : Value).ownBlock ∧ some k_ ≠ (.slice Ao42 t1304.length co42 : Value).ownBlock) ∧ some k_ ≠ (.slice Ao122 t1336.length co122 : Value).ownBlock) ∧ some k_ ≠ (.slice Ao127 t1345.length co127 : Value).ownBlock)) (n := t1283.length) (c := co26) ?_).2.2; exact (rf_ (fm_ (fr_ (fr_ (fr_ (ft_ HO_1294000 BK1355) 0 (.slice Ao127 t1345.length co127)) 1 (.slice Ao133 t1348.length co133)) 2 (.slice Ao134 t1351.length co134))))); (case side8 => exact (Kd.R_reads' HO_1294000.out).2.1); (case side9 => refine (Kd.R_reads' (e := 25) (base := w.heap.size) (ok := fun k_ => (((((some k_ ≠ (.slice Ao30 t1289.length co30 : Value).ownBlock ∧ (some k_ ≠ (.slice Ao38 t1328.length co38 : Value).ownBlock ∧ (some k_ ≠ (.slice Ao39 t1329.length co39 : Value).ownBlock ∧ (some k_ ≠ (.slice Ao47 t1307.length co47 : Value).ownBlock ∧ some k_ ≠ (.slice Ao48 t1310.length co48 : Value).ownBlock)))) ∧ some k_ ≠ (.slice Ao123 t1339.length co123 : Value).ownBlock) ∧ some k_ ≠ (.slice Ao124 t1342.length co124 : Value).ownBlock) ∧ some k_ ≠ (.slice Ao133 t1348.length co133 : Value).ownBlock) ∧ some k_ ≠ (.slice Ao134 t1351.length co134 : Value).ownBlock)) (n := t1286.length) (c := co29) ?_).2.2; exact (rf_ (fm_ (fr_ (fr_ (fr_ (ft_ HO_1294001 BK1355) 0 (.slice Ao127 t1345.length co127)) 1 (.slice Ao133 t1348.length co133)) 2 (.slice Ao134 t1351.length co134))))); (case side10 => exact (Kd.R_reads' HO_1294001.out).2.1); (case side11 => refine (Kd.R_reads' (e := 25) (base := w.heap.size) (ok := fun k_ => (((((some k_ ≠ (.slice Ao29 t1286.length co29 : Value).ownBlock ∧ (some k_ ≠ (.slice Ao38 t1328.length co38 : Value).ownBlock ∧ (some k_ ≠ (.slice Ao39 t1329.length co39 : Value).ownBlock ∧ (some k_ ≠ (.slice Ao47 t1307.length co47 : Value).ownBlock ∧ some k_ ≠ (.slice Ao48 t1310.length co48 : Value).ownBlock)))) ∧ some k_ ≠ (.slice Ao123 t1339.length co123 : Value).ownBlock) ∧ some k_ ≠ (.slice Ao124 t1342.length co124 : Value).ownBlock) ∧ some k_ ≠ (.slice Ao133 t1348.length co133 : Value).ownBlock) ∧ some k_ ≠ (.slice Ao134 t1351.length co134 : Value).ownBlock)) (n := t1289.length) (c := co30) ?_).2.2; exact (rf_ (fm_ (fr_ (fr_ (fr_ (ft_ HO_1294002 BK1355) 0 (.slice Ao127 t1345.length co127)) 1 (.slice Ao133 t1348.length co133)) 2 (.slice Ao134 t1351.length co134))))); (case side12 => exact (Kd.R_reads' HO_1294002.out).2.1); rintro e w156 ⟨rfl, hb⟩; refine ⟨_, rfl, ?_⟩; have n0_ := Aside0.mk (Kd.R_below (rf_ (fm_ (fr_ (fr_ (fr_ (ft_ HO_1294000 BK1355) 0 (.slice Ao127 t1345.length co127)) 1 (.slice Ao133 t1348.length co133)) 2 (.slice Ao134 t1351.length co134)))) hb); have n1_ := Aside0.mk (Kd.R_below (rf_ (fm_ (fr_ (fr_ (fr_ (ft_ HO_1294001 BK1355) 0 (.slice Ao127 t1345.length co127)) 1 (.slice Ao133 t1348.length co133)) 2 (.slice Ao134 t1351.length co134)))) hb); have n2_ := Aside0.mk (Kd.R_below (rf_ (fm_ (fr_ (fr_ (fr_ (ft_ HO_1294002 BK1355) 0 (.slice Ao127 t1345.length co127)) 1 (.slice Ao133 t1348.length co133)) 2 (.slice Ao134 t1351.length co134)))) hb); have n3_ := Aside0.mk (Kd.R_below (rf_ (fm_ (fr_ (fr_ (fr_ (ft_ HO_1304000 BK1355) 0 (.slice Ao127 t1345.length co127)) 1 (.slice Ao133 t1348.length co133)) 2 (.slice Ao134 t1351.length co134)))) hb); have n4_ := Aside0.mk (Kd.R_below (rf_ (fm_ (fr_ (fr_ (fr_ (ft_ HO_1304001 BK1355) 0 (.slice Ao127 t1345.length co127)) 1 (.slice Ao133 t1348.length co133)) 2 (.slice Ao134 t1351.length co134)))) hb); have n5_ := Aside0.mk (Kd.R_below (rf_ (fm_ (fr_ (fr_ (fr_ (ft_ HO_1304002 BK1355) 0 (.slice Ao127 t1345.length co127)) 1 (.slice Ao133 t1348.length co133)) 2 (.slice Ao134 t1351.length co134)))) hb); have n6_ := Aside0.mk (Kd.R_below (rf_ (fm_ (fr_ (fr_ (fr_ (ft_ HO_1315000 BK1355) 0 (.slice Ao127 t1345.length co127)) 1 (.slice Ao133 t1348.length co133)) 2 (.slice Ao134 t1351.length co134)))) hb); have n7_ := Aside0.mk (Kd.R_below (rf_ (fm_ (fr_ (fr_ (fr_ (ft_ HO_1315001 BK1355) 0 (.slice Ao127 t1345.length co127)) 1 (.slice Ao133 t1348.length co133)) 2 (.slice Ao134 t1351.length co134)))) hb); have n8_ := Aside0.mk (Kd.R_below (rf_ (fm_ (fr_ (fr_ (fr_ (ft_ HO_1315002 BK1355) 0 (.slice Ao127 t1345.length co127)) 1 (.slice Ao133 t1348.length co133)) 2 (.slice Ao134 t1351.length co134)))) hb); have n9_ := Aside0.mk (Kd.R_below (rf_ (fm_ (fr_ (fr_ (fr_ (ft_ HO1338 BK1355) 0 (.slice Ao127 t1345.length co127)) 1 (.slice Ao133 t1348.length co133)) 2 (.slice Ao134 t1351.length co134)))) hb); have n10_ := Aside0.mk (Kd.R_below (rf_ (fm_ (fr_ (fr_ (fr_ (ft_ HO1341 BK1355) 0 (.slice Ao127 t1345.length co127)) 1 (.slice Ao133 t1348.length co133)) 2 (.slice Ao134 t1351.length co134)))) hb); have n11_ := Aside0.mk (Kd.R_below (rf_ (fm_ (fr_ (fr_ (fr_ (ft_ HO1344 BK1355) 0 (.slice Ao127 t1345.length co127)) 1 (.slice Ao133 t1348.length co133)) 2 (.slice Ao134 t1351.length co134)))) hb); have n12_ := Aside0.mk (Kd.R_below (rf_ (fm_ (fr_ (fr_ (fr_ (ft_ HO1347 BK1355) 0 (.slice Ao127 t1345.length co127)) 1 (.slice Ao133 t1348.length co133)) 2 (.slice Ao134 t1351.length co134)))) hb); have n13_ := Aside0.mk (Kd.R_below (rf_ (fm_ (fr_ (fr_ (fr_ (ft_ HO1350 BK1355) 0 (.slice Ao127 t1345.length co127)) 1 (.slice Ao133 t1348.length co133)) 2 (.slice Ao134 t1351.length co134)))) hb); have n14_ := Aside0.mk (Kd.R_below (rf_ (fm_ (fr_ (fr_ (fr_ (ft_ HO1353 BK1355) 0 (.slice Ao127 t1345.length co127)) 1 (.slice Ao133 t1348.length co133)) 2 (.slice Ao134 t1351.length co134)))) hb); have n15_ := Aside0.mk (blk_below (g := gb1272) (o := .cells #[.slice A0_0 l0_0.length c0_0, .slice A0_1 l0_1.length c0_1, .slice A0_2 l0_2.length c0_2] 45 (0, 0)) (by (with_reducible repeat (first | apply lN_ | apply lD_ | apply lA_)); refine blk_far ?_ NB1272_1355.out _; (with_reducible repeat (first | apply lN_ | apply lD_ | apply lA_)); refine blk_far ?_ NB1272_1355.out _; (with_reducible repeat (first | apply lN_ | apply lD_ | apply lA_)); refine blk_far ?_ NB1272_1355.out _; (with_reducible repeat (first | apply lN_ | apply lD_ | apply lA_)); exact BK1272.out) hb); have n16_ := Aside0.mk (blk_below (g := gb1293) (o := .cells #[.slice Ao26 t1283.length co26, .slice Ao29 t1286.length co29, .slice Ao30 t1289.length co30] 35 (0, 0)) (by (with_reducible repeat (first | apply lN_ | apply lD_ | apply lA_)); refine blk_far ?_ NB1293_1355.out _; (with_reducible repeat (first | apply lN_ | apply lD_ | apply lA_)); refine blk_far ?_ NB1293_1355.out _; (with_reducible repeat (first | apply lN_ | apply lD_ | apply lA_)); refine blk_far ?_ NB1293_1355.out _; (with_reducible repeat (first | apply lN_ | apply lD_ | apply lA_)); exact BK1293.out) hb); have n17_ := Aside0.mk (blk_below (g := gb1303) (o := .cells #[.slice Ao34 t1327.length co34, .slice Ao38 t1328.length co38, .slice Ao39 t1329.length co39] 35 (0, 0)) (by (with_reducible repeat (first | apply lN_ | apply lD_ | apply lA_)); refine blk_far ?_ NB1303_1355.out _; (with_reducible repeat (first | apply lN_ | apply lD_ | apply lA_)); refine blk_far ?_ NB1303_1355.out _; (with_reducible repeat (first | apply lN_ | apply lD_ | apply lA_)); refine blk_far ?_ NB1303_1355.out _; (with_reducible repeat (first | apply lN_ | apply lD_ | apply lA_)); exact BK1303.out) hb); have n18_ := Aside0.mk (blk_below (g := gb1314) (o := .cells #[.slice Ao42 t1304.length co42, .slice Ao47 t1307.length co47, .slice Ao48 t1310.length co48] 35 (0, 0)) (by (with_reducible repeat (first | apply lN_ | apply lD_ | apply lA_)); refine blk_far ?_ NB1314_1355.out _; (with_reducible repeat (first | apply lN_ | apply lD_ | apply lA_)); refine blk_far ?_ NB1314_1355.out _; (with_reducible repeat (first | apply lN_ | apply lD_ | apply lA_)); refine blk_far ?_ NB1314_1355.out _; (with_reducible repeat (first | apply lN_ | apply lD_ | apply lA_)); exact BK1314.out) hb); have n19_ := Aside0.mk (blk_below (g := gb1355) (o := .cells #[.slice Ao127 t1345.length co127, .slice Ao133 t1348.length co133, .slice Ao134 t1351.length co134] 35 (0, 0)) (by (with_reducible repeat (first | apply lN_ | apply lD_ | apply lA_)); refine blk_put (cs := #[.slice Ao127 t1345.length co127, .slice Ao133 t1348.length co133, .slice none 0 0]) ?_ 2 _ rfl; (with_reducible repeat (first | apply lN_ | apply lD_ | apply lA_)); refine blk_put (cs := #[.slice Ao127 t1345.length co127, .slice none 0 0, .slice none 0 0]) ?_ 1 _ rfl; (with_reducible repeat (first | apply lN_ | apply lD_ | apply lA_)); refine blk_put (cs := #[.slice none 0 0, .slice none 0 0, .slice none 0 0]) ?_ 0 _ rfl; (with_reducible repeat (first | apply lN_ | apply lD_ | apply lA_)); exact BK1355.out) hb); have n20_ := Aside0.mk (below_step (by repeat (first | (with_reducible first | exact HB.out | apply bA_ | apply bN_ | apply bD_ | refine bS_ ?_ GE1272.out | refine bS_ ?_ GE1293.out | refine bS_ ?_ GE1303.out | refine bS_ ?_ GE1314.out | refine bS_ ?_ GE1355.out) | exact HB.out)) hb); clear HO_1294000; clear HO_1294001; clear HO_1294002; clear HO_1304000; clear HO_1304001; clear HO_1304002; clear HO_1315000; clear HO_1315001; clear HO_1315002; clear HO1338; clear HO1341; clear HO1344; clear HO1347; clear HO1350; clear HO1353; clear BK1272; clear BK1293; clear BK1303; clear BK1314; clear BK1355; clear HB; have HO_1294000 := n0_; have HO_1294001 := n1_; have HO_1294002 := n2_; have HO_1304000 := n3_; have HO_1304001 := n4_; have HO_1304002 := n5_; have HO_1315000 := n6_; have HO_1315001 := n7_; have HO_1315002 := n8_; have HO1338 := n9_; have HO1341 := n10_; have HO1344 := n11_; have HO1347 := n12_; have HO1350 := n13_; have HO1353 := n14_; have BK1272 := n15_; have BK1293 := n16_; have BK1303 := n17_; have BK1314 := n18_; have BK1355 := n19_; have HB := n20_; clear n0_ n1_ n2_ n3_ n4_ n5_ n6_ n7_ n8_ n9_ n10_ n11_ n12_ n13_ n14_ n15_ n16_ n17_ n18_ n19_ n20_; (try clear hb); (try clear hb2); (try clear hk); (try clear hi)))
              go_meet
              case rel => exact ⟨_, (true), (by first | rfl | (simp; done) | (simp [*]; done)), H', ⟨by have := HJ14.out; have := HJ71.out; first | omega | exact Nat.le_refl _⟩, ⟨by (try simp only [hl1304000_71]); (try simp only [hl1304001_71]); (try simp only [hl1304002_71]); (with_reducible repeat (first | apply rA_ | apply rN_ | apply rD_)); exact Kd.R_mono HO_1294000.out (fun _ hk => ⟨hk.1.1.1, ⟨hk.1.1.2, hk.2⟩⟩)⟩, ⟨by (try simp only [hl1304000_71]); (try simp only [hl1304001_71]); (try simp only [hl1304002_71]); (with_reducible repeat (first | apply rA_ | apply rN_ | apply rD_)); exact Kd.R_mono HO_1294001.out (fun _ hk => ⟨hk.1.1.1.1.1, ⟨hk.1.1.1.1.2.1, ⟨hk.1.1.1.1.2.2.1, ⟨hk.1.1.1.1.2.2.2.1, ⟨hk.1.1.1.1.2.2.2.2, ⟨hk.1.2, hk.2⟩⟩⟩⟩⟩⟩)⟩, ⟨by (try simp only [hl1304000_71]); (try simp only [hl1304001_71]); (try simp only [hl1304002_71]); (with_reducible repeat (first | apply rA_ | apply rN_ | apply rD_)); exact Kd.R_mono HO_1294002.out (fun _ hk => ⟨hk.1.1.1.1.1, ⟨hk.1.1.1.1.2.1, ⟨hk.1.1.1.1.2.2.1, ⟨hk.1.1.1.1.2.2.2.1, ⟨hk.1.1.1.1.2.2.2.2, ⟨hk.1.2, hk.2⟩⟩⟩⟩⟩⟩)⟩, ⟨by (try simp only [hl1304000_71]); (try simp only [hl1304001_71]); (try simp only [hl1304002_71]); (with_reducible repeat (first | apply rA_ | apply rN_ | apply rD_)); exact Kd.R_mono HO_1304000.out (fun _ hk => ⟨hk.1.1.1, ⟨hk.1.1.2, hk.2⟩⟩)⟩, ⟨by (try simp only [hl1304000_71]); (try simp only [hl1304001_71]); (try simp only [hl1304002_71]); (with_reducible repeat (first | apply rA_ | apply rN_ | apply rD_)); exact Kd.R_mono HO_1304001.out (fun _ hk => ⟨hk.1.1.1.1.1, ⟨hk.1.1.1.1.2.1, ⟨hk.1.1.1.1.2.2.1, ⟨hk.1.1.1.1.2.2.2.1, ⟨hk.1.1.1.1.2.2.2.2, ⟨hk.1.2, hk.2⟩⟩⟩⟩⟩⟩)⟩, ⟨by (try simp only [hl1304000_71]); (try simp only [hl1304001_71]); (try simp only [hl1304002_71]); (with_reducible repeat (first | apply rA_ | apply rN_ | apply rD_)); exact Kd.R_mono HO_1304002.out (fun _ hk => ⟨hk.1.1.1.1.1, ⟨hk.1.1.1.1.2.1, ⟨hk.1.1.1.1.2.2.1, ⟨hk.1.1.1.1.2.2.2.1, ⟨hk.1.1.1.1.2.2.2.2, ⟨hk.1.2, hk.2⟩⟩⟩⟩⟩⟩)⟩, ⟨by (try simp only [hl1304000_71]); (try simp only [hl1304001_71]); (try simp only [hl1304002_71]); (with_reducible repeat (first | apply rA_ | apply rN_ | apply rD_)); exact Kd.R_mono HO_1315000.out (fun _ hk => ⟨hk.1.1.1, ⟨hk.1.1.2, hk.2⟩⟩)⟩, ⟨by (try simp only [hl1304000_71]); (try simp only [hl1304001_71]); (try simp only [hl1304002_71]); (with_reducible repeat (first | apply rA_ | apply rN_ | apply rD_)); exact Kd.R_mono HO_1315001.out (fun _ hk => ⟨hk.1.1.1.1.1, ⟨hk.1.1.1.1.2.1, ⟨hk.1.1.1.1.2.2.1, ⟨hk.1.1.1.1.2.2.2.1, ⟨hk.1.1.1.1.2.2.2.2, ⟨hk.1.2, hk.2⟩⟩⟩⟩⟩⟩)⟩, ⟨by (try simp only [hl1304000_71]); (try simp only [hl1304001_71]); (try simp only [hl1304002_71]); (with_reducible repeat (first | apply rA_ | apply rN_ | apply rD_)); exact Kd.R_mono HO_1315002.out (fun _ hk => ⟨hk.1.1.1.1.1, ⟨hk.1.1.1.1.2.1, ⟨hk.1.1.1.1.2.2.1, ⟨hk.1.1.1.1.2.2.2.1, ⟨hk.1.1.1.1.2.2.2.2, ⟨hk.1.2, hk.2⟩⟩⟩⟩⟩⟩)⟩, ⟨by (try simp only [hl1304000_71]); (try simp only [hl1304001_71]); (try simp only [hl1304002_71]); (with_reducible repeat (first | apply rA_ | apply rN_ | apply rD_)); exact Kd.R_mono HO1347.out (fun _ hk => ⟨hk.1.1.1.2, ⟨hk.1.1.2, hk.1.2⟩⟩)⟩, ⟨by (try simp only [hl1304000_71]); (try simp only [hl1304001_71]); (try simp only [hl1304002_71]); (with_reducible repeat (first | apply rA_ | apply rN_ | apply rD_)); exact Kd.R_mono HO1350.out (fun _ hk => ⟨hk.1.1.1.1.1.1.1.2, ⟨hk.1.1.1.1.1.1.2, ⟨hk.1.1.1.1.1.2, ⟨hk.1.1.1.1.2, ⟨hk.1.1.1.2, ⟨hk.1.1.2, hk.1.1.1.1.1.1.1.1⟩⟩⟩⟩⟩⟩)⟩, ⟨by (try simp only [hl1304000_71]); (try simp only [hl1304001_71]); (try simp only [hl1304002_71]); (with_reducible repeat (first | apply rA_ | apply rN_ | apply rD_)); exact Kd.R_mono HO1353.out (fun _ hk => ⟨hk.1.1.1.1.1.1.1.2, ⟨hk.1.1.1.1.1.1.2, ⟨hk.1.1.1.1.1.2, ⟨hk.1.1.1.1.2, ⟨hk.1.1.1.2, ⟨hk.1.1.2, hk.1.1.1.1.1.1.1.1⟩⟩⟩⟩⟩⟩)⟩, ⟨by (try simp only [hl1304000_71]); (try simp only [hl1304001_71]); (try simp only [hl1304002_71]); (with_reducible repeat (first | apply lN_ | apply lD_ | apply lA_)); exact BK1272.out⟩, ⟨by (try simp only [hl1304000_71]); (try simp only [hl1304001_71]); (try simp only [hl1304002_71]); (with_reducible repeat (first | apply lN_ | apply lD_ | apply lA_)); exact BK1293.out⟩, ⟨by (try simp only [hl1304000_71]); (try simp only [hl1304001_71]); (try simp only [hl1304002_71]); (with_reducible repeat (first | apply lN_ | apply lD_ | apply lA_)); exact BK1303.out⟩, ⟨by (try simp only [hl1304000_71]); (try simp only [hl1304001_71]); (try simp only [hl1304002_71]); (with_reducible repeat (first | apply lN_ | apply lD_ | apply lA_)); exact BK1314.out⟩, ⟨by (try simp only [hl1304000_71]); (try simp only [hl1304001_71]); (try simp only [hl1304002_71]); (with_reducible repeat (first | apply lN_ | apply lD_ | apply lA_)); exact BK1355.out⟩, ⟨by repeat (first | (with_reducible first | exact HB.out | apply bA_ | apply bN_ | apply bD_ | refine bS_ ?_ GE1272.out | refine bS_ ?_ GE1293.out | refine bS_ ?_ GE1303.out | refine bS_ ?_ GE1314.out | refine bS_ ?_ GE1355.out) | exact HB.out)⟩⟩
            case rest =>
             clear HC110
             try clear c1
             try clear c2
             try clear p2
             try clear c3
             try clear c4
             try clear c4b0
             try clear c4b1
             try clear c5
             try clear c6
             try clear c7
             try clear c7b0
             try clear c8
             try clear c9
             try clear c10
             try clear c11
             try clear c12
             try clear c13
             try clear c14
             try clear c15
             try clear c23
             try clear c26
             try clear c27
             try clear c28
             try clear c30
             try clear c35
             try clear c36
             try clear c43
             try clear c44
             try clear c45
             try clear c47
             try clear c48
             try clear c50
             try clear c51
             try clear c52
             try clear c53
             try clear c55
             try clear c56
             try clear c59
             try clear c60
             try clear c61
             try clear c63
             try clear c64
             try clear c67
             try clear c70
             try clear c79
             try clear c80
             try clear c81
             try clear c84
             try clear c84b0
             try clear c86
             try clear c87
             try clear c88
             try clear c89
             try clear c91
             try clear c92
             try clear c95
             try clear c96
             try clear c97
             try clear c99
             try clear c100
             try clear c103
             try clear c106
             try clear c106b0
             try clear c107
             try clear c107b0
             try clear c107b1
             try clear c111
             try clear c112
             try clear c113
             try clear c118
             try clear c119
             try clear c128
             try clear c129
             try clear c130
             try clear c131
             try clear c136
             try clear c137
             try clear c138
             try clear c139
             try clear c140
             try clear c142
             try clear c143
             try clear c144
             try clear c147
             try clear c148
             try clear c149
             try clear c150
             try clear c152
             try clear c153
             try clear c154
             try clear hcz101_0
             try clear hcz101_1
             try clear hcz101_2
             try clear hcz114_0
             try clear hcz114_1
             try clear hcz114_2
             try clear hcz116_0
             try clear hcz116_1
             try clear hcz116_2
             try clear hcz120_0
             try clear hcz120_1
             try clear hcz120_2
             try clear hcz132_0
             try clear hcz132_1
             try clear hcz132_2
             try clear hcz141_0
             try clear hcz141_1
             try clear hcz141_2
             try clear hcz145_0
             try clear hcz145_1
             try clear hcz145_2
             try clear hcz151_0
             try clear hcz151_1
             try clear hcz151_2
             try clear hcz155_0
             try clear hcz155_1
             try clear hcz155_2
             try clear hcz17_0
             try clear hcz17_1
             try clear hcz17_2
             try clear hcz19_0
             try clear hcz19_1
             try clear hcz19_2
             try clear hcz28_0
             try clear hcz28_1
             try clear hcz28_2
             try clear hcz31_0
             try clear hcz31_1
             try clear hcz31_2
             try clear hcz37_0
             try clear hcz37_1
             try clear hcz37_2
             try clear hcz46_0
             try clear hcz46_1
             try clear hcz46_2
             try clear hcz54_0
             try clear hcz54_1
             try clear hcz54_2
             try clear hcz57_0
             try clear hcz57_1
             try clear hcz57_2
             try clear hcz62_0
             try clear hcz62_1
             try clear hcz62_2
             try clear hcz65_0
             try clear hcz65_1
             try clear hcz65_2
             try clear hcz82_0
             try clear hcz82_1
             try clear hcz82_2
             try clear hcz90_0
             try clear hcz90_1
             try clear hcz90_2
             try clear hcz93_0
             try clear hcz93_1
             try clear hcz93_2
             try clear hcz98_0
             try clear hcz98_1
             try clear hcz98_2
             try clear hcz9_0
             try clear hcz9_1
             try clear hcz9_2
             try clear hfz101_0
             try clear hfz101_1
             try clear hfz101_2
             try clear hfz114_0
             try clear hfz114_1
             try clear hfz114_2
             try clear hfz116_0
             try clear hfz116_1
             try clear hfz116_2
             try clear hfz120_0
             try clear hfz120_1
             try clear hfz120_2
             try clear hfz132_0
             try clear hfz132_1
             try clear hfz132_2
             try clear hfz141_0
             try clear hfz141_1
             try clear hfz141_2
             try clear hfz145_0
             try clear hfz145_1
             try clear hfz145_2
             try clear hfz151_0
             try clear hfz151_1
             try clear hfz151_2
             try clear hfz155_0
             try clear hfz155_1
             try clear hfz155_2
             try clear hfz17_0
             try clear hfz17_1
             try clear hfz17_2
             try clear hfz19_0
             try clear hfz19_1
             try clear hfz19_2
             try clear hfz28_0
             try clear hfz28_1
             try clear hfz28_2
             try clear hfz31_0
             try clear hfz31_1
             try clear hfz31_2
             try clear hfz37_0
             try clear hfz37_1
             try clear hfz37_2
             try clear hfz46_0
             try clear hfz46_1
             try clear hfz46_2
             try clear hfz54_0
             try clear hfz54_1
             try clear hfz54_2
             try clear hfz57_0
             try clear hfz57_1
             try clear hfz57_2
             try clear hfz62_0
             try clear hfz62_1
             try clear hfz62_2
             try clear hfz65_0
             try clear hfz65_1
             try clear hfz65_2
             try clear hfz82_0
             try clear hfz82_1
             try clear hfz82_2
             try clear hfz90_0
             try clear hfz90_1
             try clear hfz90_2
             try clear hfz93_0
             try clear hfz93_1
             try clear hfz93_2
             try clear hfz98_0
             try clear hfz98_1
             try clear hfz98_2
             try clear hfz9_0
             try clear hfz9_1
             try clear hfz9_2
             try clear p2
             obtain ⟨kq, x100_109, rfl, HA, HJ109, HO_1294000, HO_1294001, HO_1294002, HO_1304000, HO_1304001, HO_1304002, HO_1315000, HO_1315001, HO_1315002, HO_1356000, HO_1356001, HO_1356002, BK1272, BK1293, BK1303, BK1314, BK1355, HB⟩ := hcut
             have hl1315000_109 := (Kd.R_reads' HO_1315000.out).1
             rw [hl1315000_109] at HO_1315000
             (try simp only [hl1315000_109])
             (try simp only [hl1315000_109] at BK1272)
             (try simp only [hl1315000_109] at BK1293)
             (try simp only [hl1315000_109] at BK1303)
             (try simp only [hl1315000_109] at BK1314)
             (try simp only [hl1315000_109] at BK1355)
             (try simp only [hl1315000_109] at HO_1294000)
             (try simp only [hl1315000_109] at HO_1294001)
             (try simp only [hl1315000_109] at HO_1294002)
             (try simp only [hl1315000_109] at HO_1304000)
             (try simp only [hl1315000_109] at HO_1304001)
             (try simp only [hl1315000_109] at HO_1304002)
             (try simp only [hl1315000_109] at HO_1315001)
             (try simp only [hl1315000_109] at HO_1315002)
             (try simp only [hl1315000_109] at HO_1356000)
             (try simp only [hl1315000_109] at HO_1356001)
             (try simp only [hl1315000_109] at HO_1356002)
             have hl1315001_109 := (Kd.R_reads' HO_1315001.out).1
             rw [hl1315001_109] at HO_1315001
             (try simp only [hl1315001_109])
             (try simp only [hl1315001_109] at BK1272)
             (try simp only [hl1315001_109] at BK1293)
             (try simp only [hl1315001_109] at BK1303)
             (try simp only [hl1315001_109] at BK1314)
             (try simp only [hl1315001_109] at BK1355)
             (try simp only [hl1315001_109] at HO_1294000)
             (try simp only [hl1315001_109] at HO_1294001)
             (try simp only [hl1315001_109] at HO_1294002)
             (try simp only [hl1315001_109] at HO_1304000)
             (try simp only [hl1315001_109] at HO_1304001)
             (try simp only [hl1315001_109] at HO_1304002)
             (try simp only [hl1315001_109] at HO_1315000)
             (try simp only [hl1315001_109] at HO_1315002)
             (try simp only [hl1315001_109] at HO_1356000)
             (try simp only [hl1315001_109] at HO_1356001)
             (try simp only [hl1315001_109] at HO_1356002)
             have hl1315002_109 := (Kd.R_reads' HO_1315002.out).1
             rw [hl1315002_109] at HO_1315002
             (try simp only [hl1315002_109])
             (try simp only [hl1315002_109] at BK1272)
             (try simp only [hl1315002_109] at BK1293)
             (try simp only [hl1315002_109] at BK1303)
             (try simp only [hl1315002_109] at BK1314)
             (try simp only [hl1315002_109] at BK1355)
             (try simp only [hl1315002_109] at HO_1294000)
             (try simp only [hl1315002_109] at HO_1294001)
             (try simp only [hl1315002_109] at HO_1294002)
             (try simp only [hl1315002_109] at HO_1304000)
             (try simp only [hl1315002_109] at HO_1304001)
             (try simp only [hl1315002_109] at HO_1304002)
             (try simp only [hl1315002_109] at HO_1315000)
             (try simp only [hl1315002_109] at HO_1315001)
             (try simp only [hl1315002_109] at HO_1356000)
             (try simp only [hl1315002_109] at HO_1356001)
             (try simp only [hl1315002_109] at HO_1356002)
             cases kq with
             | zero => exact absurd HA.out (by simp [laws_FnExactReplaceItem.j2])
             | succ kj109 =>
              have H := HA.out
              clear HA
              simp only [laws_FnExactReplaceItem.j2] at H
              by_cases c157 : x100_109 = true
              ·subst c157
               have H1 : (none) = some r := by rw [if_pos rfl] at H; exact H
               clear H
               have H := H1
               clear H1
               exact absurd H (by simp)
              ·replace c157 := Bool.eq_false_iff.mpr c157
               subst c157
               have H1 : ((laws_heldDesk.f kj109 t1332 t1333 t1334 1).bind fun t1357 => (if t1357 < 0 then (none) else (if t1357 = t1331 then (some true) else (none)))) = some r := by rw [if_neg (show ¬ (false = true) by decide)] at H; exact H
               clear H
               have H := H1
               clear H1
               replace H := Option.bind_eq_some_iff.mp H
               obtain ⟨t1357, A1580, H⟩ := H
               try dsimp only at H
               have A158 := Aside0.mk A1580
               clear A1580
               by_cases c159 : t1357 < 0
               ·rw [if_pos c159] at H
                exact absurd H (by simp)
               ·rw [if_neg c159] at H
                have c159b0 : decide (t1357 < 0) = false := decide_eq_false c159
                clear c159
                by_cases c160 : t1357 = t1331
                ·rw [if_pos c160] at H
                 have c160b0 : (t1357 == t1331) = true := beq_iff_eq.mpr c160
                 have c160b1 : (t1357 != t1331) = false := bne_eq_false_iff_eq.mpr c160
                 clear c160
                 obtain rfl := Option.some.inj H
                 have hnb161 := NB1314_1272.out
                 have hnc161 := NB1272_1314.out
                 have hnb162 := NB1314_1293.out
                 have hnc162 := NB1293_1314.out
                 have hnb163 := NB1314_1303.out
                 have hnc163 := NB1303_1314.out
                 have hnb164 := NB1314_1355.out
                 have hnc164 := NB1355_1314.out
                 have hcz165_0 := cz0_ BK1314
                 have hcz165_1 := cz1_ BK1314
                 have hcz165_2 := cz2_ BK1314
                 have hfz165_0 := fz_ BK1314 0
                 have hfz165_1 := fz_ BK1314 1
                 have hfz165_2 := fz_ BK1314 2
                 go_wp2_with (first | ((with_reducible refine gate_callee (f := 27) rfl ?_); refine goesL_ (some 103) rfl rfl Try.func27 (by kernel_rfl) rfl #[.agg #[.slice Ao42 t1332.length co42, .slice Ao47 t1333.length co47, .slice Ao48 t1334.length co48], .int .i64 1] rfl args_ ?_; (with_reducible refine (laws_heldDesk.calls kj109 _ _ t1332 _ _ t1333 _ _ t1334 1 t1357 _ ?side1 ?side2 ?side3 ?side4 ?side5 ?side6 A158.out).mono ?_); (case side1 => exact cr_ HO_1315000); (case side2 => exact (Kd.R_reads' HO_1315000.out).2.1); (case side3 => exact cr_ HO_1315001); (case side4 => exact (Kd.R_reads' HO_1315001.out).2.1); (case side5 => exact cr_ HO_1315002); (case side6 => exact (Kd.R_reads' HO_1315002.out).2.1); rintro e w166 ⟨rfl, hb⟩; refine ⟨_, rfl, ?_⟩; have n0_ := Aside0.mk (Kd.R_below (ra_ HO_1294000) hb); have n1_ := Aside0.mk (Kd.R_below (ra_ HO_1294001) hb); have n2_ := Aside0.mk (Kd.R_below (ra_ HO_1294002) hb); have n3_ := Aside0.mk (Kd.R_below (ra_ HO_1304000) hb); have n4_ := Aside0.mk (Kd.R_below (ra_ HO_1304001) hb); have n5_ := Aside0.mk (Kd.R_below (ra_ HO_1304002) hb); have n6_ := Aside0.mk (Kd.R_below (ra_ HO_1315000) hb); have n7_ := Aside0.mk (Kd.R_below (ra_ HO_1315001) hb); have n8_ := Aside0.mk (Kd.R_below (ra_ HO_1315002) hb); have n9_ := Aside0.mk (Kd.R_below (ra_ HO_1356000) hb); have n10_ := Aside0.mk (Kd.R_below (ra_ HO_1356001) hb); have n11_ := Aside0.mk (Kd.R_below (ra_ HO_1356002) hb); have n12_ := Aside0.mk (lb_ BK1272 hb); have n13_ := Aside0.mk (lb_ BK1293 hb); have n14_ := Aside0.mk (lb_ BK1303 hb); have n15_ := Aside0.mk (lb_ BK1314 hb); have n16_ := Aside0.mk (lb_ BK1355 hb); have n17_ := Aside0.mk (below_step (by repeat (first | (with_reducible first | exact HB.out | apply bA_ | apply bN_ | apply bD_ | refine bS_ ?_ GE1272.out | refine bS_ ?_ GE1293.out | refine bS_ ?_ GE1303.out | refine bS_ ?_ GE1314.out | refine bS_ ?_ GE1355.out) | exact HB.out)) hb); clear HO_1294000; clear HO_1294001; clear HO_1294002; clear HO_1304000; clear HO_1304001; clear HO_1304002; clear HO_1315000; clear HO_1315001; clear HO_1315002; clear HO_1356000; clear HO_1356001; clear HO_1356002; clear BK1272; clear BK1293; clear BK1303; clear BK1314; clear BK1355; clear HB; have HO_1294000 := n0_; have HO_1294001 := n1_; have HO_1294002 := n2_; have HO_1304000 := n3_; have HO_1304001 := n4_; have HO_1304002 := n5_; have HO_1315000 := n6_; have HO_1315001 := n7_; have HO_1315002 := n8_; have HO_1356000 := n9_; have HO_1356001 := n10_; have HO_1356002 := n11_; have BK1272 := n12_; have BK1293 := n13_; have BK1303 := n14_; have BK1314 := n15_; have BK1355 := n16_; have HB := n17_; clear n0_ n1_ n2_ n3_ n4_ n5_ n6_ n7_ n8_ n9_ n10_ n11_ n12_ n13_ n14_ n15_ n16_ n17_; (try clear hb); (try clear hb2); (try clear hk); (try clear hi)))
                 go_ret
                 exact ⟨by first | rfl | (simp [errW_none, errW_some] <;> rfl) | (simp [*, errW_none, errW_some] <;> rfl), by repeat (first | (with_reducible first | exact HB.out | apply bA_ | apply bN_ | apply bD_ | refine bS_ ?_ GE1272.out | refine bS_ ?_ GE1293.out | refine bS_ ?_ GE1303.out | refine bS_ ?_ GE1314.out | refine bS_ ?_ GE1355.out) | exact HB.out)⟩
                ·rw [if_neg c160] at H
                 exact absurd H (by simp)
           ·rw [if_neg c107] at H
            exact absurd H (by simp)
      ·replace c70 := Bool.eq_false_iff.mpr c70
       subst c70
       have H1 : (none) = some r := by rw [if_neg (show ¬ (false = true) by decide)] at H; exact H
       clear H
       have H := H1
       clear H1
       exact absurd H (by simp)

end Go.Proofs.Ytmmpnigbfiebbaa.PA
