-- Written by a program of this session (wip/tools/myprint.py). Not trusted: Lean checks it.
import Derived.Test.YtmmpnigbfiebbaaPAx0
import Derived.Test.YtmmpnigbfiebbaaPAx3
import Derived.Test.YtmmpnigbfiebbaaPAx4
import Derived.Test.YtmmpnigbfiebbaaPAx5
import Derived.Test.YtmmpnigbfiebbaaPAx7
import Derived.Test.YtmmpnigbfiebbaaPAx18
namespace Go.Proofs.Ytmmpnigbfiebbaa.PA
open Go.RowKit Go.Proofs.YtmmpnigbfiebbaaW.PrintWords Go.Proofs.YtmmpnigbfiebbaaW.PrintLast Go.Proofs.YtmmpnigbfiebbaaW.PrintMore
attribute [local go_sem] max2_int min2_int max_two min_two max_three min_three max_four min_four   -- for this text's walks alone
set_option linter.unusedVariables false
set_option linter.unusedSimpArgs false

/-! ### laws_FnExactRedoEdit: function 8 -/
mutual
def laws_FnExactRedoEdit.j0 : Nat → Bool → Bool → Bool → List ByteArray → List (S23) → List (S23) → List ByteArray → List (S25) → List (S25) → List ByteArray → List (S25) → List (S25) → List ByteArray → List (S25) → List (S25) → Option (Bool)
 | 0, _, _, _, _, _, _, _, _, _, _, _, _, _, _, _ => none
 | k + 1, x5, x8, x40, x661000, x661001, x661002, x682000, x682001, x682002, x692000, x692001, x692002, x703000, x703001, x703002 => if x40 = true then (none) else ((laws_toDesk.f k x661000 x661001 x661002).bind fun bt704 => ((laws_eqDesk.f k x692000 x692001 x692002 bt704.1 bt704.2.1 bt704.2.2).bind fun t713 => (if t713 = true then ((laws_markDesk.f k x692000 x692001 x692002 1).bind fun bt714 => (if bt714.1 < 0 then (laws_FnExactRedoEdit.j1 k x5 true x661000 x661001 x661002 x682000 x682001 x682002 x703000 x703001 x703002) else ((laws_eqDesk.f k x703000 x703001 x703002 x682000 x682001 x682002).bind fun t718 => (if t718 = true then (laws_FnExactRedoEdit.j1 k x5 (x8 != x5) x661000 x661001 x661002 x682000 x682001 x682002 x703000 x703001 x703002) else (laws_FnExactRedoEdit.j1 k x5 true x661000 x661001 x661002 x682000 x682001 x682002 x703000 x703001 x703002))))) else (none))))
def laws_FnExactRedoEdit.j1 : Nat → Bool → Bool → List ByteArray → List (S23) → List (S23) → List ByteArray → List (S25) → List (S25) → List ByteArray → List (S25) → List (S25) → Option (Bool)
 | 0, _, _, _, _, _, _, _, _, _, _, _ => none
 | k + 1, x5, x61, x661000, x661001, x661002, x682000, x682001, x682002, x703000, x703001, x703002 => if x61 = true then (none) else ((laws_markDesk.f k x703000 x703001 x703002 1).bind fun bt719 => ((laws_heldDesk.f k bt719.2.1 bt719.2.2.1 bt719.2.2.2 1).bind fun t723 => (if t723 < 0 then (none) else (if t723 = bt719.1 then ((laws_toDesk.f k x661000 x661001 x661002).bind fun bt724 => ((impl_RedoEdit.f k bt724.1 bt724.2.1 bt724.2.2).bind fun bt733 => ((laws_eqDesk.f k bt733.1 bt733.2.1 bt733.2.2.1 x682000 x682001 x682002).bind fun t744 => (if t744 = true then (laws_FnExactRedoEdit.j2 k bt719.1 (bt733.2.2.2 != x5) bt719.2.1 bt719.2.2.1 bt719.2.2.2) else (laws_FnExactRedoEdit.j2 k bt719.1 true bt719.2.1 bt719.2.2.1 bt719.2.2.2))))) else (none)))))
def laws_FnExactRedoEdit.j2 : Nat → Int → Bool → List ByteArray → List (S25) → List (S25) → Option (Bool)
 | 0, _, _, _, _, _ => none
 | k + 1, x10, x87, x703000, x703001, x703002 => if x87 = true then (none) else ((laws_heldDesk.f k x703000 x703001 x703002 1).bind fun t745 => (if t745 < 0 then (none) else (if t745 = x10 then (some true) else (none))))
end
def laws_FnExactRedoEdit.f (k : Nat) (l0_0 : List ByteArray) (l0_1 : List (S23)) (l0_2 : List (S23)) : Option (Bool) := (laws_szDesk.f k l0_0 l0_1 l0_2 1048576).bind fun t661 => (if t661 < 0 then (some true) else ((laws_toDesk.f k l0_0 l0_1 l0_2).bind fun bt662 => ((spec_RedoEdit.f k bt662.1 bt662.2.1 bt662.2.2).bind fun bt671 => ((laws_toDesk.f k l0_0 l0_1 l0_2).bind fun bt682 => ((impl_RedoEdit.f k bt682.1 bt682.2.1 bt682.2.2).bind fun bt692 => ((laws_eqDesk.f k bt692.1 bt692.2.1 bt692.2.2.1 bt671.1 bt671.2.1 bt671.2.2.1).bind fun t703 => (if t703 = true then (laws_FnExactRedoEdit.j0 k bt671.2.2.2 bt692.2.2.2 (bt692.2.2.2 != bt671.2.2.2) l0_0 l0_1 l0_2 bt671.1 bt671.2.1 bt671.2.2.1 bt682.1 bt682.2.1 bt682.2.2 bt692.1 bt692.2.1 bt692.2.2.1) else (laws_FnExactRedoEdit.j0 k bt671.2.2.2 bt692.2.2.2 true l0_0 l0_1 l0_2 bt671.1 bt671.2.1 bt671.2.2.1 bt682.1 bt682.2.1 bt682.2.2 bt692.1 bt692.2.1 bt692.2.2.1))))))))
theorem laws_FnExactRedoEdit.mono_l : ∀ k, (∀ y0 y1 y2 y3 y4 y5 y6 y7 y8 y9 y10 y11 y12 y13 y14, LeO (laws_FnExactRedoEdit.j0 k y0 y1 y2 y3 y4 y5 y6 y7 y8 y9 y10 y11 y12 y13 y14) (laws_FnExactRedoEdit.j0 (k + 1) y0 y1 y2 y3 y4 y5 y6 y7 y8 y9 y10 y11 y12 y13 y14)) ∧ (∀ y0 y1 y2 y3 y4 y5 y6 y7 y8 y9 y10, LeO (laws_FnExactRedoEdit.j1 k y0 y1 y2 y3 y4 y5 y6 y7 y8 y9 y10) (laws_FnExactRedoEdit.j1 (k + 1) y0 y1 y2 y3 y4 y5 y6 y7 y8 y9 y10)) ∧ (∀ y0 y1 y2 y3 y4, LeO (laws_FnExactRedoEdit.j2 k y0 y1 y2 y3 y4) (laws_FnExactRedoEdit.j2 (k + 1) y0 y1 y2 y3 y4))
 | 0 => ⟨fun _ _ _ _ _ _ _ _ _ _ _ _ _ _ _ r h => by simp [laws_FnExactRedoEdit.j0] at h, fun _ _ _ _ _ _ _ _ _ _ _ r h => by simp [laws_FnExactRedoEdit.j1] at h, fun _ _ _ _ _ r h => by simp [laws_FnExactRedoEdit.j2] at h⟩
 | k + 1 => by
  obtain ⟨ih0, ih1, ih2⟩ := laws_FnExactRedoEdit.mono_l k
  refine ⟨?_, ?_, ?_⟩
  ·intro y0 y1 y2 y3 y4 y5 y6 y7 y8 y9 y10 y11 y12 y13 y14
   unfold laws_FnExactRedoEdit.j0
   repeat' first
   | (with_reducible exact ih0 _ _ _ _ _ _ _ _ _ _ _ _ _ _ _)
   | (with_reducible exact ih1 _ _ _ _ _ _ _ _ _ _ _)
   | (with_reducible exact ih2 _ _ _ _ _)
   | (with_reducible exact impl_RedoEdit.mono _ _ _ _)
   | (with_reducible exact laws_eqDesk.mono _ _ _ _ _ _ _)
   | (with_reducible exact laws_heldDesk.mono _ _ _ _ _)
   | (with_reducible exact laws_markDesk.mono _ _ _ _ _)
   | (with_reducible exact laws_szDesk.mono _ _ _ _ _)
   | (with_reducible exact laws_toDesk.mono _ _ _ _)
   | (with_reducible exact spec_RedoEdit.mono _ _ _ _)
   | (with_reducible exact LeO.refl _)
   | (with_reducible exact LeO.none _)
   | (with_reducible refine LeO.ite ?_ ?_)
   | (with_reducible refine LeO.bind ?_ (fun _ => ?_))
   | exact ih0 _ _ _ _ _ _ _ _ _ _ _ _ _ _ _
   | exact ih1 _ _ _ _ _ _ _ _ _ _ _
   | exact ih2 _ _ _ _ _
   | exact LeO.none _
   | refine LeO.ite ?_ ?_
   | refine LeO.bind ?_ (fun _ => ?_)
  ·intro y0 y1 y2 y3 y4 y5 y6 y7 y8 y9 y10
   unfold laws_FnExactRedoEdit.j1
   repeat' first
   | (with_reducible exact ih0 _ _ _ _ _ _ _ _ _ _ _ _ _ _ _)
   | (with_reducible exact ih1 _ _ _ _ _ _ _ _ _ _ _)
   | (with_reducible exact ih2 _ _ _ _ _)
   | (with_reducible exact impl_RedoEdit.mono _ _ _ _)
   | (with_reducible exact laws_eqDesk.mono _ _ _ _ _ _ _)
   | (with_reducible exact laws_heldDesk.mono _ _ _ _ _)
   | (with_reducible exact laws_markDesk.mono _ _ _ _ _)
   | (with_reducible exact laws_szDesk.mono _ _ _ _ _)
   | (with_reducible exact laws_toDesk.mono _ _ _ _)
   | (with_reducible exact spec_RedoEdit.mono _ _ _ _)
   | (with_reducible exact LeO.refl _)
   | (with_reducible exact LeO.none _)
   | (with_reducible refine LeO.ite ?_ ?_)
   | (with_reducible refine LeO.bind ?_ (fun _ => ?_))
   | exact ih0 _ _ _ _ _ _ _ _ _ _ _ _ _ _ _
   | exact ih1 _ _ _ _ _ _ _ _ _ _ _
   | exact ih2 _ _ _ _ _
   | exact LeO.none _
   | refine LeO.ite ?_ ?_
   | refine LeO.bind ?_ (fun _ => ?_)
  ·intro y0 y1 y2 y3 y4
   unfold laws_FnExactRedoEdit.j2
   repeat' first
   | (with_reducible exact ih0 _ _ _ _ _ _ _ _ _ _ _ _ _ _ _)
   | (with_reducible exact ih1 _ _ _ _ _ _ _ _ _ _ _)
   | (with_reducible exact ih2 _ _ _ _ _)
   | (with_reducible exact impl_RedoEdit.mono _ _ _ _)
   | (with_reducible exact laws_eqDesk.mono _ _ _ _ _ _ _)
   | (with_reducible exact laws_heldDesk.mono _ _ _ _ _)
   | (with_reducible exact laws_markDesk.mono _ _ _ _ _)
   | (with_reducible exact laws_szDesk.mono _ _ _ _ _)
   | (with_reducible exact laws_toDesk.mono _ _ _ _)
   | (with_reducible exact spec_RedoEdit.mono _ _ _ _)
   | (with_reducible exact LeO.refl _)
   | (with_reducible exact LeO.none _)
   | (with_reducible refine LeO.ite ?_ ?_)
   | (with_reducible refine LeO.bind ?_ (fun _ => ?_))
   | exact ih0 _ _ _ _ _ _ _ _ _ _ _ _ _ _ _
   | exact ih1 _ _ _ _ _ _ _ _ _ _ _
   | exact ih2 _ _ _ _ _
   | exact LeO.none _
   | refine LeO.ite ?_ ?_
   | refine LeO.bind ?_ (fun _ => ?_)
theorem laws_FnExactRedoEdit.mono : ∀ a0 a1 a2 k, LeO (laws_FnExactRedoEdit.f k a0 a1 a2) (laws_FnExactRedoEdit.f (k + 1) a0 a1 a2) := by
 intro a0 a1 a2 k
 obtain ⟨ih0, ih1, ih2⟩ := laws_FnExactRedoEdit.mono_l k
 unfold laws_FnExactRedoEdit.f
 repeat' first
   | (with_reducible exact ih0 _ _ _ _ _ _ _ _ _ _ _ _ _ _ _)
   | (with_reducible exact ih1 _ _ _ _ _ _ _ _ _ _ _)
   | (with_reducible exact ih2 _ _ _ _ _)
   | (with_reducible exact impl_RedoEdit.mono _ _ _ _)
   | (with_reducible exact laws_eqDesk.mono _ _ _ _ _ _ _)
   | (with_reducible exact laws_heldDesk.mono _ _ _ _ _)
   | (with_reducible exact laws_markDesk.mono _ _ _ _ _)
   | (with_reducible exact laws_szDesk.mono _ _ _ _ _)
   | (with_reducible exact laws_toDesk.mono _ _ _ _)
   | (with_reducible exact spec_RedoEdit.mono _ _ _ _)
   | (with_reducible exact LeO.refl _)
   | (with_reducible exact LeO.none _)
   | (with_reducible refine LeO.ite ?_ ?_)
   | (with_reducible refine LeO.bind ?_ (fun _ => ?_))
   | exact ih0 _ _ _ _ _ _ _ _ _ _ _ _ _ _ _
   | exact ih1 _ _ _ _ _ _ _ _ _ _ _
   | exact ih2 _ _ _ _ _
   | exact LeO.none _
   | refine LeO.ite ?_ ?_
   | refine LeO.bind ?_ (fun _ => ?_)
set_option maxHeartbeats 8000000 in
set_option maxRecDepth 100000 in
theorem laws_FnExactRedoEdit.calls (k : Nat) (A0_0 : Option Addr) (c0_0 : Nat) (l0_0 : List ByteArray) (A0_1 : Option Addr) (c0_1 : Nat) (l0_1 : List (S23)) (A0_2 : Option Addr) (c0_2 : Nat) (l0_2 : List (S23)) (r : Bool) (w : World) (hr0_0 : Kd.C Kd.string w A0_0 l0_0.length l0_0) (hc0_0 : l0_0.length ≤ c0_0) (hr0_1 : Kd.C k23 w A0_1 l0_1.length l0_1) (hc0_1 : l0_1.length ≤ c0_1) (hr0_2 : Kd.C k23 w A0_2 l0_2.length l0_2) (hc0_2 : l0_2.length ≤ c0_2) (h : laws_FnExactRedoEdit.f k l0_0 l0_1 l0_2 = some r) :
  Calls Try.prog 8 #[.agg #[.slice A0_0 l0_0.length c0_0, .slice A0_1 l0_1.length c0_1, .slice A0_2 l0_2.length c0_2]] w fun e w' => e = .returned (.bool r) ∧ Below w.heap.size w w' := by
 have hu45 := Try.underlying45
 have hu35 := Try.underlying35
 have HR0_0 := Aside0.mk hr0_0
 have HC0_0 := Aside0.mk hc0_0
 clear hr0_0 hc0_0
 have HR0_1 := Aside0.mk hr0_1
 have HC0_1 := Aside0.mk hc0_1
 clear hr0_1 hc0_1
 have HR0_2 := Aside0.mk hr0_2
 have HC0_2 := Aside0.mk hc0_2
 clear hr0_2 hc0_2
 have HB := Aside0.mk (Below.refl w.heap.size w)
 have H : ((laws_szDesk.f k l0_0 l0_1 l0_2 1048576).bind fun t661 => (if t661 < 0 then (some true) else ((laws_toDesk.f k l0_0 l0_1 l0_2).bind fun bt662 => ((spec_RedoEdit.f k bt662.1 bt662.2.1 bt662.2.2).bind fun bt671 => ((laws_toDesk.f k l0_0 l0_1 l0_2).bind fun bt682 => ((impl_RedoEdit.f k bt682.1 bt682.2.1 bt682.2.2).bind fun bt692 => ((laws_eqDesk.f k bt692.1 bt692.2.1 bt692.2.2.1 bt671.1 bt671.2.1 bt671.2.2.1).bind fun t703 => (if t703 = true then (laws_FnExactRedoEdit.j0 k bt671.2.2.2 bt692.2.2.2 (bt692.2.2.2 != bt671.2.2.2) l0_0 l0_1 l0_2 bt671.1 bt671.2.1 bt671.2.2.1 bt682.1 bt682.2.1 bt682.2.2 bt692.1 bt692.2.1 bt692.2.2.1) else (laws_FnExactRedoEdit.j0 k bt671.2.2.2 bt692.2.2.2 true l0_0 l0_1 l0_2 bt671.1 bt671.2.1 bt671.2.2.1 bt682.1 bt682.2.1 bt682.2.2 bt692.1 bt692.2.1 bt692.2.2.1))))))))) = some r := h
 clear h
 replace H := Option.bind_eq_some_iff.mp H
 obtain ⟨t661, A20, H⟩ := H
 try dsimp only at H
 have A2 := Aside0.mk A20
 clear A20
 by_cases c3 : t661 < 0
 ·rw [if_pos c3] at H
  have c3b0 : decide (t661 < 0) = true := decide_eq_true c3
  clear c3
  obtain rfl := Option.some.inj H
  go_enter Try.func8, Try.ntmps8
  go_wp2_with (first | ((with_reducible refine gate_dst (N := 1) rfl ?_); refine box_event ?hg (N := 1) ?hd (cs := #[.slice A0_0 l0_0.length c0_0, .slice A0_1 l0_1.length c0_1, .slice A0_2 l0_2.length c0_2]) (t := 45) ?hr ?_; (case hd => rfl); (case hg => rfl); (case hr => first | (go_simp; done) | (go_simp; rfl)); intro gb660 hg w4 hbox hb; have n0_ := Aside0.mk (bt_ HB hb); have n1_ := Aside0.mk (hbox); have n2_ := Aside0.mk ((by rw [hg]; exact (bz_ HB) : w.heap.size ≤ gb660)); have n3_ := Aside0.mk ((by rw [hg]; exact (bz_ HB) : w.heap.size ≤ gb660)); clear HB; have HB := n0_; have BK660 := n1_; have GW660 := n2_; have GE660 := n3_; clear n0_ n1_ n2_ n3_; clear hb hbox hg; have hcz5_0 : w4.cell? ⟨gb660, 0, none⟩ = some (.slice A0_0 l0_0.length c0_0) := (blk_cell BK660.out 0).trans rfl; have hcz5_1 : w4.cell? ⟨gb660, 1, none⟩ = some (.slice A0_1 l0_1.length c0_1) := (blk_cell BK660.out 1).trans rfl; have hcz5_2 : w4.cell? ⟨gb660, 2, none⟩ = some (.slice A0_2 l0_2.length c0_2) := (blk_cell BK660.out 2).trans rfl; have hfz5_0 := blk_frozen BK660.out 0; have hfz5_1 := blk_frozen BK660.out 1; have hfz5_2 := blk_frozen BK660.out 2) | ((with_reducible refine gate_callee (f := 28) rfl ?_); refine goesL_ (some 16) rfl rfl Try.func28 (by kernel_rfl) rfl #[.agg #[.slice A0_0 l0_0.length c0_0, .slice A0_1 l0_1.length c0_1, .slice A0_2 l0_2.length c0_2], .int .i64 1048576] rfl args_ ?_; (with_reducible refine (laws_szDesk.calls k _ _ l0_0 _ _ l0_1 _ _ l0_2 1048576 t661 _ ?side1 ?side2 ?side3 ?side4 ?side5 ?side6 A2.out).mono ?_); (case side1 => repeat (first | exact (Kd.C_below HR0_0.out HB.out) | (with_reducible first | apply cA_ | apply cN_ | apply cD_))); (case side2 => exact HC0_0.out); (case side3 => repeat (first | exact (Kd.C_below HR0_1.out HB.out) | (with_reducible first | apply cA_ | apply cN_ | apply cD_))); (case side4 => exact HC0_1.out); (case side5 => repeat (first | exact (Kd.C_below HR0_2.out HB.out) | (with_reducible first | apply cA_ | apply cN_ | apply cD_))); (case side6 => exact HC0_2.out); rintro e w6 ⟨rfl, hb⟩; refine ⟨_, rfl, ?_⟩; have n0_ := Aside0.mk (lb_ BK660 hb); have n1_ := Aside0.mk (below_step (bb1_ HB GE660) hb); clear BK660; clear HB; have BK660 := n0_; have HB := n1_; clear n0_ n1_; (try clear hb); (try clear hb2); (try clear hk); (try clear hi)))
  go_ret
  exact ⟨by first | rfl | (simp [errW_none, errW_some] <;> rfl) | (simp [*, errW_none, errW_some] <;> rfl), bb1_ HB GE660⟩
 ·rw [if_neg c3] at H
  have c3b0 : decide (t661 < 0) = false := decide_eq_false c3
  clear c3
  replace H := Option.bind_eq_some_iff.mp H
  obtain ⟨⟨t662, t665, t668⟩, A70, H⟩ := H
  try dsimp only at H
  have A7 := Aside0.mk A70
  clear A70
  replace H := Option.bind_eq_some_iff.mp H
  obtain ⟨⟨t671, t674, t677, t680⟩, A80, H⟩ := H
  try dsimp only at H
  have A8 := Aside0.mk A80
  clear A80
  replace H := Option.bind_eq_some_iff.mp H
  obtain ⟨⟨t682, t685, t688⟩, A90, H⟩ := H
  try dsimp only at H
  have A9 := Aside0.mk A90
  clear A90
  replace H := Option.bind_eq_some_iff.mp H
  obtain ⟨⟨t692, t695, t698, t701⟩, A100, H⟩ := H
  try dsimp only at H
  have A10 := Aside0.mk A100
  clear A100
  have HC11 := Aside0.mk H
  clear H
  go_enter Try.func8, Try.ntmps8
  go_upto_region 8 with (first | ((with_reducible refine gate_dst (N := 1) rfl ?_); refine box_event ?hg (N := 1) ?hd (cs := #[.slice A0_0 l0_0.length c0_0, .slice A0_1 l0_1.length c0_1, .slice A0_2 l0_2.length c0_2]) (t := 45) ?hr ?_; (case hd => rfl); (case hg => rfl); (case hr => first | (go_simp; done) | (go_simp; rfl)); intro gb660 hg w12 hbox hb; have n0_ := Aside0.mk (bt_ HB hb); have n1_ := Aside0.mk (hbox); have n2_ := Aside0.mk ((by rw [hg]; exact (bz_ HB) : w.heap.size ≤ gb660)); have n3_ := Aside0.mk ((by rw [hg]; exact (bz_ HB) : w.heap.size ≤ gb660)); clear HB; have HB := n0_; have BK660 := n1_; have GW660 := n2_; have GE660 := n3_; clear n0_ n1_ n2_ n3_; clear hb hbox hg; have hcz13_0 : w12.cell? ⟨gb660, 0, none⟩ = some (.slice A0_0 l0_0.length c0_0) := (blk_cell BK660.out 0).trans rfl; have hcz13_1 : w12.cell? ⟨gb660, 1, none⟩ = some (.slice A0_1 l0_1.length c0_1) := (blk_cell BK660.out 1).trans rfl; have hcz13_2 : w12.cell? ⟨gb660, 2, none⟩ = some (.slice A0_2 l0_2.length c0_2) := (blk_cell BK660.out 2).trans rfl; have hfz13_0 := blk_frozen BK660.out 0; have hfz13_1 := blk_frozen BK660.out 1; have hfz13_2 := blk_frozen BK660.out 2) | ((with_reducible refine gate_callee (f := 28) rfl ?_); refine goesL_ (some 16) rfl rfl Try.func28 (by kernel_rfl) rfl #[.agg #[.slice A0_0 l0_0.length c0_0, .slice A0_1 l0_1.length c0_1, .slice A0_2 l0_2.length c0_2], .int .i64 1048576] rfl args_ ?_; (with_reducible refine (laws_szDesk.calls k _ _ l0_0 _ _ l0_1 _ _ l0_2 1048576 t661 _ ?side1 ?side2 ?side3 ?side4 ?side5 ?side6 A2.out).mono ?_); (case side1 => repeat (first | exact (Kd.C_below HR0_0.out HB.out) | (with_reducible first | apply cA_ | apply cN_ | apply cD_))); (case side2 => exact HC0_0.out); (case side3 => repeat (first | exact (Kd.C_below HR0_1.out HB.out) | (with_reducible first | apply cA_ | apply cN_ | apply cD_))); (case side4 => exact HC0_1.out); (case side5 => repeat (first | exact (Kd.C_below HR0_2.out HB.out) | (with_reducible first | apply cA_ | apply cN_ | apply cD_))); (case side6 => exact HC0_2.out); rintro e w14 ⟨rfl, hb⟩; refine ⟨_, rfl, ?_⟩; have n0_ := Aside0.mk (lb_ BK660 hb); have n1_ := Aside0.mk (below_step (bb1_ HB GE660) hb); clear BK660; clear HB; have BK660 := n0_; have HB := n1_; clear n0_ n1_; (try clear hb); (try clear hb2); (try clear hk); (try clear hi); have hcz15_0 : w14.cell? ⟨gb660, 0, none⟩ = some (.slice A0_0 l0_0.length c0_0) := (blk_cell BK660.out 0).trans rfl; have hcz15_1 : w14.cell? ⟨gb660, 1, none⟩ = some (.slice A0_1 l0_1.length c0_1) := (blk_cell BK660.out 1).trans rfl; have hcz15_2 : w14.cell? ⟨gb660, 2, none⟩ = some (.slice A0_2 l0_2.length c0_2) := (blk_cell BK660.out 2).trans rfl; have hfz15_0 := blk_frozen BK660.out 0; have hfz15_1 := blk_frozen BK660.out 1; have hfz15_2 := blk_frozen BK660.out 2) | ((with_reducible refine gate_callee (f := 30) rfl ?_); refine goesL_ (some 21) rfl rfl Try.func30 (by kernel_rfl) rfl #[.agg #[.slice A0_0 l0_0.length c0_0, .slice A0_1 l0_1.length c0_1, .slice A0_2 l0_2.length c0_2]] rfl args_ ?_; (with_reducible refine (laws_toDesk.calls k _ _ l0_0 _ _ l0_1 _ _ l0_2 t662 t665 t668 _ ?side1 ?side2 ?side3 ?side4 ?side5 ?side6 A7.out).mono ?_); (case side1 => repeat (first | exact (Kd.C_below HR0_0.out HB.out) | (with_reducible first | apply cA_ | apply cN_ | apply cD_))); (case side2 => exact HC0_0.out); (case side3 => repeat (first | exact (Kd.C_below HR0_1.out HB.out) | (with_reducible first | apply cA_ | apply cN_ | apply cD_))); (case side4 => exact HC0_1.out); (case side5 => repeat (first | exact (Kd.C_below HR0_2.out HB.out) | (with_reducible first | apply cA_ | apply cN_ | apply cD_))); (case side6 => exact HC0_2.out); rintro e w16 ⟨v663, v666, v669, rfl, ho0, ho1, ho2, hb⟩; refine ⟨_, rfl, ?_⟩; have n0_ := Aside0.mk (Kd.R_lower ho0 (below_size (bb1_ HB GE660))); have n1_ := Aside0.mk (Kd.R_lower ho1 (below_size (bb1_ HB GE660))); have n2_ := Aside0.mk (Kd.R_lower ho2 (below_size (bb1_ HB GE660))); have n3_ := Aside0.mk (lb_ BK660 hb); have n4_ := Aside0.mk (below_step (bb1_ HB GE660) hb); clear BK660; clear HB; have HO664 := n0_; have HO667 := n1_; have HO670 := n2_; have BK660 := n3_; have HB := n4_; clear n0_ n1_ n2_ n3_ n4_; (try clear hb); (try clear hb2); (try clear hk); (try clear hi); (try clear ho0); (try clear ho1); (try clear ho2); obtain ⟨Ao17, co17, eo17⟩ := Kd.R_slice HO664.out; subst eo17; obtain ⟨Ao18, co18, eo18⟩ := Kd.R_slice HO667.out; subst eo18; obtain ⟨Ao19, co19, eo19⟩ := Kd.R_slice HO670.out; subst eo19) | ((with_reducible refine gate_callee (f := 37) rfl ?_); refine goesL_ (some 22) rfl rfl Try.func37 (by kernel_rfl) rfl #[.agg #[.slice Ao17 t662.length co17, .slice Ao18 t665.length co18, .slice Ao19 t668.length co19]] rfl args_ ?_; (with_reducible refine (spec_RedoEdit.calls k _ _ t662 _ _ t665 _ _ t668 t671 t674 t677 t680 _ ?side1 ?side2 ?side3 ?side4 ?side5 ?side6 A8.out).mono ?_); (case side1 => repeat (first | exact (Kd.R_reads' HO664.out).2.2 | (with_reducible first | apply cA_ | apply cN_ | apply cD_))); (case side2 => exact (Kd.R_reads' HO664.out).2.1); (case side3 => repeat (first | exact (Kd.R_reads' HO667.out).2.2 | (with_reducible first | apply cA_ | apply cN_ | apply cD_))); (case side4 => exact (Kd.R_reads' HO667.out).2.1); (case side5 => repeat (first | exact (Kd.R_reads' HO670.out).2.2 | (with_reducible first | apply cA_ | apply cN_ | apply cD_))); (case side6 => exact (Kd.R_reads' HO670.out).2.1); rintro e w20 ⟨v672, v675, v678, rfl, ho0, ho1, ho2, hb⟩; refine ⟨_, rfl, ?_⟩; have n0_ := Aside0.mk (Kd.R_elder' (ra_ HO664) (Kd.R_base ho0) hb); have n1_ := Aside0.mk (Kd.R_mono (Kd.R_told (Kd.R_told (Kd.R_old (ra_ HO667) hb) (Kd.R_base ho1)) (Kd.R_base ho2)) (fun _ h_ => h_.1)); have n2_ := Aside0.mk (Kd.R_mono (Kd.R_told (Kd.R_told (Kd.R_old (ra_ HO670) hb) (Kd.R_base ho1)) (Kd.R_base ho2)) (fun _ h_ => h_.1)); have n3_ := Aside0.mk (Kd.R_lower (Kd.R_new' ho0 (Kd.R_lt (ra_ HO664))) (below_size (bb1_ HB GE660))); have n4_ := Aside0.mk (Kd.R_lower (Kd.R_new' (Kd.R_new' ho1 (Kd.R_lt (ra_ HO667))) (Kd.R_lt (ra_ HO670))) (below_size (bb1_ HB GE660))); have n5_ := Aside0.mk (Kd.R_lower (Kd.R_new' (Kd.R_new' ho2 (Kd.R_lt (ra_ HO667))) (Kd.R_lt (ra_ HO670))) (below_size (bb1_ HB GE660))); have n6_ := Aside0.mk (lb_ BK660 hb); have n7_ := Aside0.mk (below_step (bb1_ HB GE660) hb); clear HO664; clear HO667; clear HO670; clear BK660; clear HB; have HO664 := n0_; have HO667 := n1_; have HO670 := n2_; have HO673 := n3_; have HO676 := n4_; have HO679 := n5_; have BK660 := n6_; have HB := n7_; clear n0_ n1_ n2_ n3_ n4_ n5_ n6_ n7_; (try clear hb); (try clear hb2); (try clear hk); (try clear hi); (try clear ho0); (try clear ho1); (try clear ho2)) | ((with_reducible refine gate_dst (N := 4) rfl ?_); refine box_event ?hg (N := 4) ?hd (cs := #[.slice none 0 0, .slice none 0 0, .slice none 0 0]) (t := 35) ?hr ?_; (case hd => rfl); (case hg => rfl); (case hr => first | (go_simp; done) | (go_simp; rfl)); intro gb681 hg w21 hbox hb; have n0_ := Aside0.mk (Kd.R_below (ra_ HO664) hb); have n1_ := Aside0.mk (Kd.R_below (ra_ HO667) hb); have n2_ := Aside0.mk (Kd.R_below (ra_ HO670) hb); have n3_ := Aside0.mk (Kd.R_below (ra_ HO673) hb); have n4_ := Aside0.mk (Kd.R_below (ra_ HO676) hb); have n5_ := Aside0.mk (Kd.R_below (ra_ HO679) hb); have n6_ := Aside0.mk (lb_ BK660 hb); have n7_ := Aside0.mk (below_step (bb1_ HB GE660) hb); have n8_ := Aside0.mk (hbox); have n9_ := Aside0.mk ((by rw [hg]; exact (below_size (bb1_ HB GE660)) : w.heap.size ≤ gb681)); have n10_ := Aside0.mk ((by rw [hg]; exact (below_size (bb1_ HB GE660)) : w.heap.size ≤ gb681)); have n11_ := Aside0.mk ((by rw [hg]; exact Nat.ne_of_lt (blk_lt (g := gb660) (o := .cells #[.slice A0_0 l0_0.length c0_0, .slice A0_1 l0_1.length c0_1, .slice A0_2 l0_2.length c0_2] 45 (0, 0)) (la_ BK660)) : gb660 ≠ gb681)); have n12_ := Aside0.mk ((by rw [hg]; exact Nat.ne_of_gt (blk_lt (g := gb660) (o := .cells #[.slice A0_0 l0_0.length c0_0, .slice A0_1 l0_1.length c0_1, .slice A0_2 l0_2.length c0_2] 45 (0, 0)) (la_ BK660)) : gb681 ≠ gb660)); clear HO664; clear HO667; clear HO670; clear HO673; clear HO676; clear HO679; clear BK660; clear HB; have HO664 := n0_; have HO667 := n1_; have HO670 := n2_; have HO673 := n3_; have HO676 := n4_; have HO679 := n5_; have BK660 := n6_; have HB := n7_; have BK681 := n8_; have GW681 := n9_; have GE681 := n10_; have NB660_681 := n11_; have NB681_660 := n12_; clear n0_ n1_ n2_ n3_ n4_ n5_ n6_ n7_ n8_ n9_ n10_ n11_ n12_; clear hb hbox hg; obtain ⟨Ao22, co22, eo22⟩ := Kd.R_slice HO673.out; subst eo22; have hnb23 := NB681_660.out; have hnc23 := NB660_681.out; have hcz24_0 : w21.cell? ⟨gb681, 0, none⟩ = some (.slice none 0 0) := (blk_cell BK681.out 0).trans rfl; have hcz24_1 : w21.cell? ⟨gb681, 1, none⟩ = some (.slice none 0 0) := (blk_cell BK681.out 1).trans rfl; have hcz24_2 : w21.cell? ⟨gb681, 2, none⟩ = some (.slice none 0 0) := (blk_cell BK681.out 2).trans rfl; have hfz24_0 := blk_frozen BK681.out 0; have hfz24_1 := blk_frozen BK681.out 1; have hfz24_2 := blk_frozen BK681.out 2; obtain ⟨Ao25, co25, eo25⟩ := Kd.R_slice HO676.out; subst eo25; obtain ⟨Ao26, co26, eo26⟩ := Kd.R_slice HO679.out; subst eo26; have hcz27_0 : w21.cell? ⟨gb660, 0, none⟩ = some (.slice A0_0 l0_0.length c0_0) := (blk_cell BK660.out 0).trans rfl; have hcz27_1 : w21.cell? ⟨gb660, 1, none⟩ = some (.slice A0_1 l0_1.length c0_1) := (blk_cell BK660.out 1).trans rfl; have hcz27_2 : w21.cell? ⟨gb660, 2, none⟩ = some (.slice A0_2 l0_2.length c0_2) := (blk_cell BK660.out 2).trans rfl; have hfz27_0 := blk_frozen BK660.out 0; have hfz27_1 := blk_frozen BK660.out 1; have hfz27_2 := blk_frozen BK660.out 2) | ((with_reducible refine gate_callee (f := 30) rfl ?_); refine goesL_ (some 26) rfl rfl Try.func30 (by kernel_rfl) rfl #[.agg #[.slice A0_0 l0_0.length c0_0, .slice A0_1 l0_1.length c0_1, .slice A0_2 l0_2.length c0_2]] rfl args_ ?_; (with_reducible refine (laws_toDesk.calls k _ _ l0_0 _ _ l0_1 _ _ l0_2 t682 t685 t688 _ ?side1 ?side2 ?side3 ?side4 ?side5 ?side6 A9.out).mono ?_); (case side1 => exact Kd.C_below HR0_0.out (bb2_ HB GE660 GE681)); (case side2 => exact HC0_0.out); (case side3 => exact Kd.C_below HR0_1.out (bb2_ HB GE660 GE681)); (case side4 => exact HC0_1.out); (case side5 => exact Kd.C_below HR0_2.out (bb2_ HB GE660 GE681)); (case side6 => exact HC0_2.out); rintro e w28 ⟨v683, v686, v689, rfl, ho0, ho1, ho2, hb⟩; refine ⟨_, rfl, ?_⟩; have n0_ := Aside0.mk (Kd.R_elder' (rf_ (fm_ (fr_ (fr_ (fr_ (ft_ HO664 BK681) 0 (.slice Ao22 t671.length co22)) 1 (.slice Ao25 t674.length co25)) 2 (.slice Ao26 t677.length co26)))) (Kd.R_base ho0) hb); have n1_ := Aside0.mk (Kd.R_mono (Kd.R_told (Kd.R_told (Kd.R_old (rf_ (fm_ (fr_ (fr_ (fr_ (ft_ HO667 BK681) 0 (.slice Ao22 t671.length co22)) 1 (.slice Ao25 t674.length co25)) 2 (.slice Ao26 t677.length co26)))) hb) (Kd.R_base ho1)) (Kd.R_base ho2)) (fun _ h_ => h_.1)); have n2_ := Aside0.mk (Kd.R_mono (Kd.R_told (Kd.R_told (Kd.R_old (rf_ (fm_ (fr_ (fr_ (fr_ (ft_ HO670 BK681) 0 (.slice Ao22 t671.length co22)) 1 (.slice Ao25 t674.length co25)) 2 (.slice Ao26 t677.length co26)))) hb) (Kd.R_base ho1)) (Kd.R_base ho2)) (fun _ h_ => h_.1)); have n3_ := Aside0.mk (Kd.R_elder' (rf_ (fm_ (fr_ (fr_ (fr_ (ft_ HO673 BK681) 0 (.slice Ao22 t671.length co22)) 1 (.slice Ao25 t674.length co25)) 2 (.slice Ao26 t677.length co26)))) (Kd.R_base ho0) hb); have n4_ := Aside0.mk (Kd.R_mono (Kd.R_told (Kd.R_told (Kd.R_old (rf_ (fm_ (fr_ (fr_ (fr_ (ft_ HO676 BK681) 0 (.slice Ao22 t671.length co22)) 1 (.slice Ao25 t674.length co25)) 2 (.slice Ao26 t677.length co26)))) hb) (Kd.R_base ho1)) (Kd.R_base ho2)) (fun _ h_ => h_.1)); have n5_ := Aside0.mk (Kd.R_mono (Kd.R_told (Kd.R_told (Kd.R_old (rf_ (fm_ (fr_ (fr_ (fr_ (ft_ HO679 BK681) 0 (.slice Ao22 t671.length co22)) 1 (.slice Ao25 t674.length co25)) 2 (.slice Ao26 t677.length co26)))) hb) (Kd.R_base ho1)) (Kd.R_base ho2)) (fun _ h_ => h_.1)); have n6_ := Aside0.mk (Kd.R_lower (Kd.R_new' (Kd.R_new' ho0 (Kd.R_lt (rf_ (fm_ (fr_ (fr_ (fr_ (ft_ HO664 BK681) 0 (.slice Ao22 t671.length co22)) 1 (.slice Ao25 t674.length co25)) 2 (.slice Ao26 t677.length co26)))))) (Kd.R_lt (rf_ (fm_ (fr_ (fr_ (fr_ (ft_ HO673 BK681) 0 (.slice Ao22 t671.length co22)) 1 (.slice Ao25 t674.length co25)) 2 (.slice Ao26 t677.length co26)))))) (below_size (bb2_ HB GE660 GE681))); have n7_ := Aside0.mk (Kd.R_lower (Kd.R_new' (Kd.R_new' (Kd.R_new' (Kd.R_new' ho1 (Kd.R_lt (rf_ (fm_ (fr_ (fr_ (fr_ (ft_ HO667 BK681) 0 (.slice Ao22 t671.length co22)) 1 (.slice Ao25 t674.length co25)) 2 (.slice Ao26 t677.length co26)))))) (Kd.R_lt (rf_ (fm_ (fr_ (fr_ (fr_ (ft_ HO670 BK681) 0 (.slice Ao22 t671.length co22)) 1 (.slice Ao25 t674.length co25)) 2 (.slice Ao26 t677.length co26)))))) (Kd.R_lt (rf_ (fm_ (fr_ (fr_ (fr_ (ft_ HO676 BK681) 0 (.slice Ao22 t671.length co22)) 1 (.slice Ao25 t674.length co25)) 2 (.slice Ao26 t677.length co26)))))) (Kd.R_lt (rf_ (fm_ (fr_ (fr_ (fr_ (ft_ HO679 BK681) 0 (.slice Ao22 t671.length co22)) 1 (.slice Ao25 t674.length co25)) 2 (.slice Ao26 t677.length co26)))))) (below_size (bb2_ HB GE660 GE681))); have n8_ := Aside0.mk (Kd.R_lower (Kd.R_new' (Kd.R_new' (Kd.R_new' (Kd.R_new' ho2 (Kd.R_lt (rf_ (fm_ (fr_ (fr_ (fr_ (ft_ HO667 BK681) 0 (.slice Ao22 t671.length co22)) 1 (.slice Ao25 t674.length co25)) 2 (.slice Ao26 t677.length co26)))))) (Kd.R_lt (rf_ (fm_ (fr_ (fr_ (fr_ (ft_ HO670 BK681) 0 (.slice Ao22 t671.length co22)) 1 (.slice Ao25 t674.length co25)) 2 (.slice Ao26 t677.length co26)))))) (Kd.R_lt (rf_ (fm_ (fr_ (fr_ (fr_ (ft_ HO676 BK681) 0 (.slice Ao22 t671.length co22)) 1 (.slice Ao25 t674.length co25)) 2 (.slice Ao26 t677.length co26)))))) (Kd.R_lt (rf_ (fm_ (fr_ (fr_ (fr_ (ft_ HO679 BK681) 0 (.slice Ao22 t671.length co22)) 1 (.slice Ao25 t674.length co25)) 2 (.slice Ao26 t677.length co26)))))) (below_size (bb2_ HB GE660 GE681))); have n9_ := Aside0.mk (blk_below (g := gb660) (o := .cells #[.slice A0_0 l0_0.length c0_0, .slice A0_1 l0_1.length c0_1, .slice A0_2 l0_2.length c0_2] 45 (0, 0)) (by (with_reducible repeat (first | apply lN_ | apply lD_ | apply lA_)); refine blk_far ?_ NB660_681.out _; (with_reducible repeat (first | apply lN_ | apply lD_ | apply lA_)); refine blk_far ?_ NB660_681.out _; (with_reducible repeat (first | apply lN_ | apply lD_ | apply lA_)); refine blk_far ?_ NB660_681.out _; (with_reducible repeat (first | apply lN_ | apply lD_ | apply lA_)); exact BK660.out) hb); have n10_ := Aside0.mk (blk_below (g := gb681) (o := .cells #[.slice Ao22 t671.length co22, .slice Ao25 t674.length co25, .slice Ao26 t677.length co26] 35 (0, 0)) (by (with_reducible repeat (first | apply lN_ | apply lD_ | apply lA_)); refine blk_put (cs := #[.slice Ao22 t671.length co22, .slice Ao25 t674.length co25, .slice none 0 0]) ?_ 2 _ rfl; (with_reducible repeat (first | apply lN_ | apply lD_ | apply lA_)); refine blk_put (cs := #[.slice Ao22 t671.length co22, .slice none 0 0, .slice none 0 0]) ?_ 1 _ rfl; (with_reducible repeat (first | apply lN_ | apply lD_ | apply lA_)); refine blk_put (cs := #[.slice none 0 0, .slice none 0 0, .slice none 0 0]) ?_ 0 _ rfl; (with_reducible repeat (first | apply lN_ | apply lD_ | apply lA_)); exact BK681.out) hb); have n11_ := Aside0.mk (below_step (bb2_ HB GE660 GE681) hb); clear HO664; clear HO667; clear HO670; clear HO673; clear HO676; clear HO679; clear BK660; clear BK681; clear HB; have HO664 := n0_; have HO667 := n1_; have HO670 := n2_; have HO673 := n3_; have HO676 := n4_; have HO679 := n5_; have HO684 := n6_; have HO687 := n7_; have HO690 := n8_; have BK660 := n9_; have BK681 := n10_; have HB := n11_; clear n0_ n1_ n2_ n3_ n4_ n5_ n6_ n7_ n8_ n9_ n10_ n11_; (try clear hb); (try clear hb2); (try clear hk); (try clear hi); (try clear ho0); (try clear ho1); (try clear ho2)) | ((with_reducible refine gate_dst (N := 6) rfl ?_); refine box_event ?hg (N := 6) ?hd (cs := #[.slice none 0 0, .slice none 0 0, .slice none 0 0]) (t := 35) ?hr ?_; (case hd => rfl); (case hg => rfl); (case hr => first | (go_simp; done) | (go_simp; rfl)); intro gb691 hg w29 hbox hb; have n0_ := Aside0.mk (Kd.R_below (ra_ HO664) hb); have n1_ := Aside0.mk (Kd.R_below (ra_ HO667) hb); have n2_ := Aside0.mk (Kd.R_below (ra_ HO670) hb); have n3_ := Aside0.mk (Kd.R_below (ra_ HO673) hb); have n4_ := Aside0.mk (Kd.R_below (ra_ HO676) hb); have n5_ := Aside0.mk (Kd.R_below (ra_ HO679) hb); have n6_ := Aside0.mk (Kd.R_below (ra_ HO684) hb); have n7_ := Aside0.mk (Kd.R_below (ra_ HO687) hb); have n8_ := Aside0.mk (Kd.R_below (ra_ HO690) hb); have n9_ := Aside0.mk (lb_ BK660 hb); have n10_ := Aside0.mk (lb_ BK681 hb); have n11_ := Aside0.mk (below_step (bb2_ HB GE660 GE681) hb); have n12_ := Aside0.mk (hbox); have n13_ := Aside0.mk ((by rw [hg]; exact (below_size (bb2_ HB GE660 GE681)) : w.heap.size ≤ gb691)); have n14_ := Aside0.mk ((by rw [hg]; exact (below_size (bb2_ HB GE660 GE681)) : w.heap.size ≤ gb691)); have n15_ := Aside0.mk ((by rw [hg]; exact Nat.ne_of_lt (blk_lt (g := gb660) (o := .cells #[.slice A0_0 l0_0.length c0_0, .slice A0_1 l0_1.length c0_1, .slice A0_2 l0_2.length c0_2] 45 (0, 0)) (la_ BK660)) : gb660 ≠ gb691)); have n16_ := Aside0.mk ((by rw [hg]; exact Nat.ne_of_gt (blk_lt (g := gb660) (o := .cells #[.slice A0_0 l0_0.length c0_0, .slice A0_1 l0_1.length c0_1, .slice A0_2 l0_2.length c0_2] 45 (0, 0)) (la_ BK660)) : gb691 ≠ gb660)); have n17_ := Aside0.mk ((by rw [hg]; exact Nat.ne_of_lt (blk_lt (g := gb681) (o := .cells #[.slice Ao22 t671.length co22, .slice Ao25 t674.length co25, .slice Ao26 t677.length co26] 35 (0, 0)) (la_ BK681)) : gb681 ≠ gb691)); have n18_ := Aside0.mk ((by rw [hg]; exact Nat.ne_of_gt (blk_lt (g := gb681) (o := .cells #[.slice Ao22 t671.length co22, .slice Ao25 t674.length co25, .slice Ao26 t677.length co26] 35 (0, 0)) (la_ BK681)) : gb691 ≠ gb681)); clear HO664; clear HO667; clear HO670; clear HO673; clear HO676; clear HO679; clear HO684; clear HO687; clear HO690; clear BK660; clear BK681; clear HB; have HO664 := n0_; have HO667 := n1_; have HO670 := n2_; have HO673 := n3_; have HO676 := n4_; have HO679 := n5_; have HO684 := n6_; have HO687 := n7_; have HO690 := n8_; have BK660 := n9_; have BK681 := n10_; have HB := n11_; have BK691 := n12_; have GW691 := n13_; have GE691 := n14_; have NB660_691 := n15_; have NB691_660 := n16_; have NB681_691 := n17_; have NB691_681 := n18_; clear n0_ n1_ n2_ n3_ n4_ n5_ n6_ n7_ n8_ n9_ n10_ n11_ n12_ n13_ n14_ n15_ n16_ n17_ n18_; clear hb hbox hg; obtain ⟨Ao30, co30, eo30⟩ := Kd.R_slice HO684.out; subst eo30; have hnb31 := NB691_660.out; have hnc31 := NB660_691.out; have hnb32 := NB691_681.out; have hnc32 := NB681_691.out; have hcz33_0 : w29.cell? ⟨gb691, 0, none⟩ = some (.slice none 0 0) := (blk_cell BK691.out 0).trans rfl; have hcz33_1 : w29.cell? ⟨gb691, 1, none⟩ = some (.slice none 0 0) := (blk_cell BK691.out 1).trans rfl; have hcz33_2 : w29.cell? ⟨gb691, 2, none⟩ = some (.slice none 0 0) := (blk_cell BK691.out 2).trans rfl; have hfz33_0 := blk_frozen BK691.out 0; have hfz33_1 := blk_frozen BK691.out 1; have hfz33_2 := blk_frozen BK691.out 2; obtain ⟨Ao34, co34, eo34⟩ := Kd.R_slice HO687.out; subst eo34; obtain ⟨Ao35, co35, eo35⟩ := Kd.R_slice HO690.out; subst eo35) | ((with_reducible refine gate_callee (f := 38) rfl ?_); refine goesL_ (some 29) rfl rfl Try.func38 (by kernel_rfl) rfl #[.agg #[.slice Ao30 t682.length co30, .slice Ao34 t685.length co34, .slice Ao35 t688.length co35]] rfl args_ ?_; (with_reducible refine (impl_RedoEdit.calls k _ _ t682 _ _ t685 _ _ t688 t692 t695 t698 t701 _ ?side1 ?side2 ?side3 ?side4 ?side5 ?side6 A10.out).mono ?_); (case side1 => refine (Kd.R_reads' (e := 9) (base := w.heap.size) (ok := fun k_ => ((True ∧ some k_ ≠ (.slice Ao17 t662.length co17 : Value).ownBlock) ∧ some k_ ≠ (.slice Ao22 t671.length co22 : Value).ownBlock)) (n := t682.length) (c := co30) ?_).2.2; exact (rf_ (fm_ (fr_ (fr_ (fr_ (ft_ HO684 BK691) 0 (.slice Ao30 t682.length co30)) 1 (.slice Ao34 t685.length co34)) 2 (.slice Ao35 t688.length co35))))); (case side2 => exact (Kd.R_reads' HO684.out).2.1); (case side3 => refine (Kd.R_reads' (e := 25) (base := w.heap.size) (ok := fun k_ => ((((some k_ ≠ (.slice Ao35 t688.length co35 : Value).ownBlock ∧ some k_ ≠ (.slice Ao18 t665.length co18 : Value).ownBlock) ∧ some k_ ≠ (.slice Ao19 t668.length co19 : Value).ownBlock) ∧ some k_ ≠ (.slice Ao25 t674.length co25 : Value).ownBlock) ∧ some k_ ≠ (.slice Ao26 t677.length co26 : Value).ownBlock)) (n := t685.length) (c := co34) ?_).2.2; exact (rf_ (fm_ (fr_ (fr_ (fr_ (ft_ HO687 BK691) 0 (.slice Ao30 t682.length co30)) 1 (.slice Ao34 t685.length co34)) 2 (.slice Ao35 t688.length co35))))); (case side4 => exact (Kd.R_reads' HO687.out).2.1); (case side5 => refine (Kd.R_reads' (e := 25) (base := w.heap.size) (ok := fun k_ => ((((some k_ ≠ (.slice Ao34 t685.length co34 : Value).ownBlock ∧ some k_ ≠ (.slice Ao18 t665.length co18 : Value).ownBlock) ∧ some k_ ≠ (.slice Ao19 t668.length co19 : Value).ownBlock) ∧ some k_ ≠ (.slice Ao25 t674.length co25 : Value).ownBlock) ∧ some k_ ≠ (.slice Ao26 t677.length co26 : Value).ownBlock)) (n := t688.length) (c := co35) ?_).2.2; exact (rf_ (fm_ (fr_ (fr_ (fr_ (ft_ HO690 BK691) 0 (.slice Ao30 t682.length co30)) 1 (.slice Ao34 t685.length co34)) 2 (.slice Ao35 t688.length co35))))); (case side6 => exact (Kd.R_reads' HO690.out).2.1); rintro e w36 ⟨v693, v696, v699, rfl, ho0, ho1, ho2, hb⟩; refine ⟨_, rfl, ?_⟩; have n0_ := Aside0.mk (Kd.R_elder' (rf_ (fm_ (fr_ (fr_ (fr_ (ft_ HO664 BK691) 0 (.slice Ao30 t682.length co30)) 1 (.slice Ao34 t685.length co34)) 2 (.slice Ao35 t688.length co35)))) (Kd.R_base ho0) hb); have n1_ := Aside0.mk (Kd.R_mono (Kd.R_told (Kd.R_told (Kd.R_old (rf_ (fm_ (fr_ (fr_ (fr_ (ft_ HO667 BK691) 0 (.slice Ao30 t682.length co30)) 1 (.slice Ao34 t685.length co34)) 2 (.slice Ao35 t688.length co35)))) hb) (Kd.R_base ho1)) (Kd.R_base ho2)) (fun _ h_ => h_.1)); have n2_ := Aside0.mk (Kd.R_mono (Kd.R_told (Kd.R_told (Kd.R_old (rf_ (fm_ (fr_ (fr_ (fr_ (ft_ HO670 BK691) 0 (.slice Ao30 t682.length co30)) 1 (.slice Ao34 t685.length co34)) 2 (.slice Ao35 t688.length co35)))) hb) (Kd.R_base ho1)) (Kd.R_base ho2)) (fun _ h_ => h_.1)); have n3_ := Aside0.mk (Kd.R_elder' (rf_ (fm_ (fr_ (fr_ (fr_ (ft_ HO673 BK691) 0 (.slice Ao30 t682.length co30)) 1 (.slice Ao34 t685.length co34)) 2 (.slice Ao35 t688.length co35)))) (Kd.R_base ho0) hb); have n4_ := Aside0.mk (Kd.R_mono (Kd.R_told (Kd.R_told (Kd.R_old (rf_ (fm_ (fr_ (fr_ (fr_ (ft_ HO676 BK691) 0 (.slice Ao30 t682.length co30)) 1 (.slice Ao34 t685.length co34)) 2 (.slice Ao35 t688.length co35)))) hb) (Kd.R_base ho1)) (Kd.R_base ho2)) (fun _ h_ => h_.1)); have n5_ := Aside0.mk (Kd.R_mono (Kd.R_told (Kd.R_told (Kd.R_old (rf_ (fm_ (fr_ (fr_ (fr_ (ft_ HO679 BK691) 0 (.slice Ao30 t682.length co30)) 1 (.slice Ao34 t685.length co34)) 2 (.slice Ao35 t688.length co35)))) hb) (Kd.R_base ho1)) (Kd.R_base ho2)) (fun _ h_ => h_.1)); have n6_ := Aside0.mk (Kd.R_elder' (rf_ (fm_ (fr_ (fr_ (fr_ (ft_ HO684 BK691) 0 (.slice Ao30 t682.length co30)) 1 (.slice Ao34 t685.length co34)) 2 (.slice Ao35 t688.length co35)))) (Kd.R_base ho0) hb); have n7_ := Aside0.mk (Kd.R_mono (Kd.R_told (Kd.R_told (Kd.R_old (rf_ (fm_ (fr_ (fr_ (fr_ (ft_ HO687 BK691) 0 (.slice Ao30 t682.length co30)) 1 (.slice Ao34 t685.length co34)) 2 (.slice Ao35 t688.length co35)))) hb) (Kd.R_base ho1)) (Kd.R_base ho2)) (fun _ h_ => h_.1)); have n8_ := Aside0.mk (Kd.R_mono (Kd.R_told (Kd.R_told (Kd.R_old (rf_ (fm_ (fr_ (fr_ (fr_ (ft_ HO690 BK691) 0 (.slice Ao30 t682.length co30)) 1 (.slice Ao34 t685.length co34)) 2 (.slice Ao35 t688.length co35)))) hb) (Kd.R_base ho1)) (Kd.R_base ho2)) (fun _ h_ => h_.1)); have n9_ := Aside0.mk (Kd.R_lower (Kd.R_new' (Kd.R_new' (Kd.R_new' ho0 (Kd.R_lt (rf_ (fm_ (fr_ (fr_ (fr_ (ft_ HO664 BK691) 0 (.slice Ao30 t682.length co30)) 1 (.slice Ao34 t685.length co34)) 2 (.slice Ao35 t688.length co35)))))) (Kd.R_lt (rf_ (fm_ (fr_ (fr_ (fr_ (ft_ HO673 BK691) 0 (.slice Ao30 t682.length co30)) 1 (.slice Ao34 t685.length co34)) 2 (.slice Ao35 t688.length co35)))))) (Kd.R_lt (rf_ (fm_ (fr_ (fr_ (fr_ (ft_ HO684 BK691) 0 (.slice Ao30 t682.length co30)) 1 (.slice Ao34 t685.length co34)) 2 (.slice Ao35 t688.length co35)))))) (below_size (bb3_ HB GE660 GE681 GE691))); have n10_ := Aside0.mk (Kd.R_lower (Kd.R_new' (Kd.R_new' (Kd.R_new' (Kd.R_new' (Kd.R_new' (Kd.R_new' ho1 (Kd.R_lt (rf_ (fm_ (fr_ (fr_ (fr_ (ft_ HO667 BK691) 0 (.slice Ao30 t682.length co30)) 1 (.slice Ao34 t685.length co34)) 2 (.slice Ao35 t688.length co35)))))) (Kd.R_lt (rf_ (fm_ (fr_ (fr_ (fr_ (ft_ HO670 BK691) 0 (.slice Ao30 t682.length co30)) 1 (.slice Ao34 t685.length co34)) 2 (.slice Ao35 t688.length co35)))))) (Kd.R_lt (rf_ (fm_ (fr_ (fr_ (fr_ (ft_ HO676 BK691) 0 (.slice Ao30 t682.length co30)) 1 (.slice Ao34 t685.length co34)) 2 (.slice Ao35 t688.length co35)))))) (Kd.R_lt (rf_ (fm_ (fr_ (fr_ (fr_ (ft_ HO679 BK691) 0 (.slice Ao30 t682.length co30)) 1 (.slice Ao34 t685.length co34)) 2 (.slice Ao35 t688.length co35)))))) (Kd.R_lt (rf_ (fm_ (fr_ (fr_ (fr_ (ft_ HO687 BK691) 0 (.slice Ao30 t682.length co30)) 1 (.slice Ao34 t685.length co34)) 2 (.slice Ao35 t688.length co35)))))) (Kd.R_lt (rf_ (fm_ (fr_ (fr_ (fr_ (ft_ HO690 BK691) 0 (.slice Ao30 t682.length co30)) 1 (.slice Ao34 t685.length co34)) 2 (.slice Ao35 t688.length co35)))))) (below_size (bb3_ HB GE660 GE681 GE691))); have n11_ := Aside0.mk (Kd.R_lower (Kd.R_new' (Kd.R_new' (Kd.R_new' (Kd.R_new' (Kd.R_new' (Kd.R_new' ho2 (Kd.R_lt (rf_ (fm_ (fr_ (fr_ (fr_ (ft_ HO667 BK691) 0 (.slice Ao30 t682.length co30)) 1 (.slice Ao34 t685.length co34)) 2 (.slice Ao35 t688.length co35)))))) (Kd.R_lt (rf_ (fm_ (fr_ (fr_ (fr_ (ft_ HO670 BK691) 0 (.slice Ao30 t682.length co30)) 1 (.slice Ao34 t685.length co34)) 2 (.slice Ao35 t688.length co35)))))) (Kd.R_lt (rf_ (fm_ (fr_ (fr_ (fr_ (ft_ HO676 BK691) 0 (.slice Ao30 t682.length co30)) 1 (.slice Ao34 t685.length co34)) 2 (.slice Ao35 t688.length co35)))))) (Kd.R_lt (rf_ (fm_ (fr_ (fr_ (fr_ (ft_ HO679 BK691) 0 (.slice Ao30 t682.length co30)) 1 (.slice Ao34 t685.length co34)) 2 (.slice Ao35 t688.length co35)))))) (Kd.R_lt (rf_ (fm_ (fr_ (fr_ (fr_ (ft_ HO687 BK691) 0 (.slice Ao30 t682.length co30)) 1 (.slice Ao34 t685.length co34)) 2 (.slice Ao35 t688.length co35)))))) (Kd.R_lt (rf_ (fm_ (fr_ (fr_ (fr_ (ft_ HO690 BK691) 0 (.slice Ao30 t682.length co30)) 1 (.slice Ao34 t685.length co34)) 2 (.slice Ao35 t688.length co35)))))) (below_size (bb3_ HB GE660 GE681 GE691))); have n12_ := Aside0.mk (blk_below (g := gb660) (o := .cells #[.slice A0_0 l0_0.length c0_0, .slice A0_1 l0_1.length c0_1, .slice A0_2 l0_2.length c0_2] 45 (0, 0)) (by (with_reducible repeat (first | apply lN_ | apply lD_ | apply lA_)); refine blk_far ?_ NB660_691.out _; (with_reducible repeat (first | apply lN_ | apply lD_ | apply lA_)); refine blk_far ?_ NB660_691.out _; (with_reducible repeat (first | apply lN_ | apply lD_ | apply lA_)); refine blk_far ?_ NB660_691.out _; (with_reducible repeat (first | apply lN_ | apply lD_ | apply lA_)); exact BK660.out) hb); have n13_ := Aside0.mk (blk_below (g := gb681) (o := .cells #[.slice Ao22 t671.length co22, .slice Ao25 t674.length co25, .slice Ao26 t677.length co26] 35 (0, 0)) (by (with_reducible repeat (first | apply lN_ | apply lD_ | apply lA_)); refine blk_far ?_ NB681_691.out _; (with_reducible repeat (first | apply lN_ | apply lD_ | apply lA_)); refine blk_far ?_ NB681_691.out _; (with_reducible repeat (first | apply lN_ | apply lD_ | apply lA_)); refine blk_far ?_ NB681_691.out _; (with_reducible repeat (first | apply lN_ | apply lD_ | apply lA_)); exact BK681.out) hb); have n14_ := Aside0.mk (blk_below (g := gb691) (o := .cells #[.slice Ao30 t682.length co30, .slice Ao34 t685.length co34, .slice Ao35 t688.length co35] 35 (0, 0)) (by (with_reducible repeat (first | apply lN_ | apply lD_ | apply lA_)); refine blk_put (cs := #[.slice Ao30 t682.length co30, .slice Ao34 t685.length co34, .slice none 0 0]) ?_ 2 _ rfl; (with_reducible repeat (first | apply lN_ | apply lD_ | apply lA_)); refine blk_put (cs := #[.slice Ao30 t682.length co30, .slice none 0 0, .slice none 0 0]) ?_ 1 _ rfl; (with_reducible repeat (first | apply lN_ | apply lD_ | apply lA_)); refine blk_put (cs := #[.slice none 0 0, .slice none 0 0, .slice none 0 0]) ?_ 0 _ rfl; (with_reducible repeat (first | apply lN_ | apply lD_ | apply lA_)); exact BK691.out) hb); have n15_ := Aside0.mk (below_step (bb3_ HB GE660 GE681 GE691) hb); clear HO664; clear HO667; clear HO670; clear HO673; clear HO676; clear HO679; clear HO684; clear HO687; clear HO690; clear BK660; clear BK681; clear BK691; clear HB; have HO664 := n0_; have HO667 := n1_; have HO670 := n2_; have HO673 := n3_; have HO676 := n4_; have HO679 := n5_; have HO684 := n6_; have HO687 := n7_; have HO690 := n8_; have HO694 := n9_; have HO697 := n10_; have HO700 := n11_; have BK660 := n12_; have BK681 := n13_; have BK691 := n14_; have HB := n15_; clear n0_ n1_ n2_ n3_ n4_ n5_ n6_ n7_ n8_ n9_ n10_ n11_ n12_ n13_ n14_ n15_; (try clear hb); (try clear hb2); (try clear hk); (try clear hi); (try clear ho0); (try clear ho1); (try clear ho2)) | ((with_reducible refine gate_dst (N := 7) rfl ?_); refine box_event ?hg (N := 7) ?hd (cs := #[.slice none 0 0, .slice none 0 0, .slice none 0 0]) (t := 35) ?hr ?_; (case hd => rfl); (case hg => rfl); (case hr => first | (go_simp; done) | (go_simp; rfl)); intro gb702 hg w37 hbox hb; have n0_ := Aside0.mk (Kd.R_below (ra_ HO664) hb); have n1_ := Aside0.mk (Kd.R_below (ra_ HO667) hb); have n2_ := Aside0.mk (Kd.R_below (ra_ HO670) hb); have n3_ := Aside0.mk (Kd.R_below (ra_ HO673) hb); have n4_ := Aside0.mk (Kd.R_below (ra_ HO676) hb); have n5_ := Aside0.mk (Kd.R_below (ra_ HO679) hb); have n6_ := Aside0.mk (Kd.R_below (ra_ HO684) hb); have n7_ := Aside0.mk (Kd.R_below (ra_ HO687) hb); have n8_ := Aside0.mk (Kd.R_below (ra_ HO690) hb); have n9_ := Aside0.mk (Kd.R_below (ra_ HO694) hb); have n10_ := Aside0.mk (Kd.R_below (ra_ HO697) hb); have n11_ := Aside0.mk (Kd.R_below (ra_ HO700) hb); have n12_ := Aside0.mk (lb_ BK660 hb); have n13_ := Aside0.mk (lb_ BK681 hb); have n14_ := Aside0.mk (lb_ BK691 hb); have n15_ := Aside0.mk (below_step (bb3_ HB GE660 GE681 GE691) hb); have n16_ := Aside0.mk (hbox); have n17_ := Aside0.mk ((by rw [hg]; exact (below_size (bb3_ HB GE660 GE681 GE691)) : w.heap.size ≤ gb702)); have n18_ := Aside0.mk ((by rw [hg]; exact (below_size (bb3_ HB GE660 GE681 GE691)) : w.heap.size ≤ gb702)); have n19_ := Aside0.mk ((by rw [hg]; exact Nat.ne_of_lt (blk_lt (g := gb660) (o := .cells #[.slice A0_0 l0_0.length c0_0, .slice A0_1 l0_1.length c0_1, .slice A0_2 l0_2.length c0_2] 45 (0, 0)) (la_ BK660)) : gb660 ≠ gb702)); have n20_ := Aside0.mk ((by rw [hg]; exact Nat.ne_of_gt (blk_lt (g := gb660) (o := .cells #[.slice A0_0 l0_0.length c0_0, .slice A0_1 l0_1.length c0_1, .slice A0_2 l0_2.length c0_2] 45 (0, 0)) (la_ BK660)) : gb702 ≠ gb660)); have n21_ := Aside0.mk ((by rw [hg]; exact Nat.ne_of_lt (blk_lt (g := gb681) (o := .cells #[.slice Ao22 t671.length co22, .slice Ao25 t674.length co25, .slice Ao26 t677.length co26] 35 (0, 0)) (la_ BK681)) : gb681 ≠ gb702)); have n22_ := Aside0.mk ((by rw [hg]; exact Nat.ne_of_gt (blk_lt (g := gb681) (o := .cells #[.slice Ao22 t671.length co22, .slice Ao25 t674.length co25, .slice Ao26 t677.length co26] 35 (0, 0)) (la_ BK681)) : gb702 ≠ gb681)); have n23_ := Aside0.mk ((by rw [hg]; exact Nat.ne_of_lt (blk_lt (g := gb691) (o := .cells #[.slice Ao30 t682.length co30, .slice Ao34 t685.length co34, .slice Ao35 t688.length co35] 35 (0, 0)) (la_ BK691)) : gb691 ≠ gb702)); have n24_ := Aside0.mk ((by rw [hg]; exact Nat.ne_of_gt (blk_lt (g := gb691) (o := .cells #[.slice Ao30 t682.length co30, .slice Ao34 t685.length co34, .slice Ao35 t688.length co35] 35 (0, 0)) (la_ BK691)) : gb702 ≠ gb691)); clear HO664; clear HO667; clear HO670; clear HO673; clear HO676; clear HO679; clear HO684; clear HO687; clear HO690; clear HO694; clear HO697; clear HO700; clear BK660; clear BK681; clear BK691; clear HB; have HO664 := n0_; have HO667 := n1_; have HO670 := n2_; have HO673 := n3_; have HO676 := n4_; have HO679 := n5_; have HO684 := n6_; have HO687 := n7_; have HO690 := n8_; have HO694 := n9_; have HO697 := n10_; have HO700 := n11_; have BK660 := n12_; have BK681 := n13_; have BK691 := n14_; have HB := n15_; have BK702 := n16_; have GW702 := n17_; have GE702 := n18_; have NB660_702 := n19_; have NB702_660 := n20_; have NB681_702 := n21_; have NB702_681 := n22_; have NB691_702 := n23_; have NB702_691 := n24_; clear n0_ n1_ n2_ n3_ n4_ n5_ n6_ n7_ n8_ n9_ n10_ n11_ n12_ n13_ n14_ n15_ n16_ n17_ n18_ n19_ n20_ n21_ n22_ n23_ n24_; clear hb hbox hg; obtain ⟨Ao38, co38, eo38⟩ := Kd.R_slice HO694.out; subst eo38; have hnb39 := NB702_660.out; have hnc39 := NB660_702.out; have hnb40 := NB702_681.out; have hnc40 := NB681_702.out; have hnb41 := NB702_691.out; have hnc41 := NB691_702.out; have hcz42_0 : w37.cell? ⟨gb702, 0, none⟩ = some (.slice none 0 0) := (blk_cell BK702.out 0).trans rfl; have hcz42_1 : w37.cell? ⟨gb702, 1, none⟩ = some (.slice none 0 0) := (blk_cell BK702.out 1).trans rfl; have hcz42_2 : w37.cell? ⟨gb702, 2, none⟩ = some (.slice none 0 0) := (blk_cell BK702.out 2).trans rfl; have hfz42_0 := blk_frozen BK702.out 0; have hfz42_1 := blk_frozen BK702.out 1; have hfz42_2 := blk_frozen BK702.out 2; obtain ⟨Ao43, co43, eo43⟩ := Kd.R_slice HO697.out; subst eo43; obtain ⟨Ao44, co44, eo44⟩ := Kd.R_slice HO700.out; subst eo44))
  (try simp only [Act.put, List.setIfInBounds_toArray, List.set_cons_zero, List.set_cons_succ])
  go_cut [40] (fun v40 wc => ∃ (kq : Nat) (x40_10 : Bool), v40 = .bool x40_10 ∧ Aside0 (laws_FnExactRedoEdit.j0 kq t680 t701 x40_10 l0_0 l0_1 l0_2 t671 t674 t677 t682 t685 t688 t692 t695 t698 = some r) ∧ Aside0 (kq ≤ k) ∧ Aside0 (Kd.R Kd.string 9 wc w.heap.size (fun k_ => some k_ ≠ ((.slice Ao30 t682.length co30) : Value).ownBlock ∧ some k_ ≠ ((.slice Ao38 t692.length co38) : Value).ownBlock) (.slice Ao22 t671.length co22) t671) ∧ Aside0 (Kd.R k25 25 wc w.heap.size (fun k_ => some k_ ≠ ((.slice Ao26 t677.length co26) : Value).ownBlock ∧ some k_ ≠ ((.slice Ao34 t685.length co34) : Value).ownBlock ∧ some k_ ≠ ((.slice Ao35 t688.length co35) : Value).ownBlock ∧ some k_ ≠ ((.slice Ao43 t695.length co43) : Value).ownBlock ∧ some k_ ≠ ((.slice Ao44 t698.length co44) : Value).ownBlock) (.slice Ao25 t674.length co25) t674) ∧ Aside0 (Kd.R k25 25 wc w.heap.size (fun k_ => some k_ ≠ ((.slice Ao25 t674.length co25) : Value).ownBlock ∧ some k_ ≠ ((.slice Ao34 t685.length co34) : Value).ownBlock ∧ some k_ ≠ ((.slice Ao35 t688.length co35) : Value).ownBlock ∧ some k_ ≠ ((.slice Ao43 t695.length co43) : Value).ownBlock ∧ some k_ ≠ ((.slice Ao44 t698.length co44) : Value).ownBlock) (.slice Ao26 t677.length co26) t677) ∧ Aside0 (Kd.R Kd.string 9 wc w.heap.size (fun k_ => some k_ ≠ ((.slice Ao22 t671.length co22) : Value).ownBlock ∧ some k_ ≠ ((.slice Ao38 t692.length co38) : Value).ownBlock) (.slice Ao30 t682.length co30) t682) ∧ Aside0 (Kd.R k25 25 wc w.heap.size (fun k_ => some k_ ≠ ((.slice Ao25 t674.length co25) : Value).ownBlock ∧ some k_ ≠ ((.slice Ao26 t677.length co26) : Value).ownBlock ∧ some k_ ≠ ((.slice Ao35 t688.length co35) : Value).ownBlock ∧ some k_ ≠ ((.slice Ao43 t695.length co43) : Value).ownBlock ∧ some k_ ≠ ((.slice Ao44 t698.length co44) : Value).ownBlock) (.slice Ao34 t685.length co34) t685) ∧ Aside0 (Kd.R k25 25 wc w.heap.size (fun k_ => some k_ ≠ ((.slice Ao25 t674.length co25) : Value).ownBlock ∧ some k_ ≠ ((.slice Ao26 t677.length co26) : Value).ownBlock ∧ some k_ ≠ ((.slice Ao34 t685.length co34) : Value).ownBlock ∧ some k_ ≠ ((.slice Ao43 t695.length co43) : Value).ownBlock ∧ some k_ ≠ ((.slice Ao44 t698.length co44) : Value).ownBlock) (.slice Ao35 t688.length co35) t688) ∧ Aside0 (Kd.R Kd.string 9 wc w.heap.size (fun k_ => some k_ ≠ ((.slice Ao22 t671.length co22) : Value).ownBlock ∧ some k_ ≠ ((.slice Ao30 t682.length co30) : Value).ownBlock) (.slice Ao38 t692.length co38) t692) ∧ Aside0 (Kd.R k25 25 wc w.heap.size (fun k_ => some k_ ≠ ((.slice Ao25 t674.length co25) : Value).ownBlock ∧ some k_ ≠ ((.slice Ao26 t677.length co26) : Value).ownBlock ∧ some k_ ≠ ((.slice Ao34 t685.length co34) : Value).ownBlock ∧ some k_ ≠ ((.slice Ao35 t688.length co35) : Value).ownBlock ∧ some k_ ≠ ((.slice Ao44 t698.length co44) : Value).ownBlock) (.slice Ao43 t695.length co43) t695) ∧ Aside0 (Kd.R k25 25 wc w.heap.size (fun k_ => some k_ ≠ ((.slice Ao25 t674.length co25) : Value).ownBlock ∧ some k_ ≠ ((.slice Ao26 t677.length co26) : Value).ownBlock ∧ some k_ ≠ ((.slice Ao34 t685.length co34) : Value).ownBlock ∧ some k_ ≠ ((.slice Ao35 t688.length co35) : Value).ownBlock ∧ some k_ ≠ ((.slice Ao43 t695.length co43) : Value).ownBlock) (.slice Ao44 t698.length co44) t698) ∧ Aside0 (wc.heap[gb660]? = some (.cells #[(.slice A0_0 l0_0.length c0_0), (.slice A0_1 l0_1.length c0_1), (.slice A0_2 l0_2.length c0_2)] 45 (0, 0))) ∧ Aside0 (wc.heap[gb681]? = some (.cells #[(.slice Ao22 t671.length co22), (.slice Ao25 t674.length co25), (.slice Ao26 t677.length co26)] 35 (0, 0))) ∧ Aside0 (wc.heap[gb691]? = some (.cells #[(.slice Ao30 t682.length co30), (.slice Ao34 t685.length co34), (.slice Ao35 t688.length co35)] 35 (0, 0))) ∧ Aside0 (wc.heap[gb702]? = some (.cells #[(.slice Ao38 t692.length co38), (.slice Ao43 t695.length co43), (.slice Ao44 t698.length co44)] 35 (0, 0))) ∧ Aside0 (Below w.heap.size w wc))
  case first =>
   have H := HC11.out
   clear HC11
   replace H := Option.bind_eq_some_iff.mp H
   obtain ⟨t703, A450, H⟩ := H
   try dsimp only at H
   have A45 := Aside0.mk A450
   clear A450
   by_cases c46 : t703 = true
   ·subst c46
    have H1 : (laws_FnExactRedoEdit.j0 k t680 t701 (t701 != t680) l0_0 l0_1 l0_2 t671 t674 t677 t682 t685 t688 t692 t695 t698) = some r := by rw [if_pos rfl] at H; exact H
    clear H
    have H := H1
    clear H1
    have H' := Aside0.mk H
    clear H
    have hnb47 := NB702_660.out
    have hnc47 := NB660_702.out
    have hnb48 := NB702_681.out
    have hnc48 := NB681_702.out
    have hnb49 := NB702_691.out
    have hnc49 := NB691_702.out
    have hcz50_0 : w37.cell? ⟨gb702, 0, none⟩ = some (.slice none 0 0) := (blk_cell BK702.out 0).trans rfl
    have hcz50_1 : w37.cell? ⟨gb702, 1, none⟩ = some (.slice none 0 0) := (blk_cell BK702.out 1).trans rfl
    have hcz50_2 : w37.cell? ⟨gb702, 2, none⟩ = some (.slice none 0 0) := (blk_cell BK702.out 2).trans rfl
    have hfz50_0 := blk_frozen BK702.out 0
    have hfz50_1 := blk_frozen BK702.out 1
    have hfz50_2 := blk_frozen BK702.out 2
    have hnb51 := NB681_660.out
    have hnc51 := NB660_681.out
    have hnb52 := NB681_691.out
    have hnc52 := NB691_681.out
    have hcz53_0 : w37.cell? ⟨gb681, 0, none⟩ = some (.slice Ao22 t671.length co22) := (blk_cell BK681.out 0).trans rfl
    have hcz53_1 : w37.cell? ⟨gb681, 1, none⟩ = some (.slice Ao25 t674.length co25) := (blk_cell BK681.out 1).trans rfl
    have hcz53_2 : w37.cell? ⟨gb681, 2, none⟩ = some (.slice Ao26 t677.length co26) := (blk_cell BK681.out 2).trans rfl
    have hfz53_0 := blk_frozen BK681.out 0
    have hfz53_1 := blk_frozen BK681.out 1
    have hfz53_2 := blk_frozen BK681.out 2
    go_wp2_with (first | ((with_reducible refine gate_callee (f := 23) rfl ?_); refine goesL_ (some 34) rfl rfl Try.func23 (by kernel_rfl) rfl #[.agg #[.slice Ao38 t692.length co38, .slice Ao43 t695.length co43, .slice Ao44 t698.length co44], .agg #[.slice Ao22 t671.length co22, .slice Ao25 t674.length co25, .slice Ao26 t677.length co26]] rfl args_ ?_; (with_reducible refine (laws_eqDesk.calls k _ _ t692 _ _ t695 _ _ t698 _ _ t671 _ _ t674 _ _ t677 true _ ?side1 ?side2 ?side3 ?side4 ?side5 ?side6 ?side7 ?side8 ?side9 ?side10 ?side11 ?side12 A45.out).mono ?_); (case side1 => refine (Kd.R_reads' (e := 9) (base := w.heap.size) (ok := fun k_ => (((True ∧ some k_ ≠ (.slice Ao17 t662.length co17 : Value).ownBlock) ∧ some k_ ≠ (.slice Ao22 t671.length co22 : Value).ownBlock) ∧ some k_ ≠ (.slice Ao30 t682.length co30 : Value).ownBlock)) (n := t692.length) (c := co38) ?_).2.2; exact (rf_ (fm_ (fr_ (fr_ (fr_ (ft_ HO694 BK702) 0 (.slice Ao38 t692.length co38)) 1 (.slice Ao43 t695.length co43)) 2 (.slice Ao44 t698.length co44))))); (case side2 => exact (Kd.R_reads' HO694.out).2.1); (case side3 => refine (Kd.R_reads' (e := 25) (base := w.heap.size) (ok := fun k_ => ((((((some k_ ≠ (.slice Ao44 t698.length co44 : Value).ownBlock ∧ some k_ ≠ (.slice Ao18 t665.length co18 : Value).ownBlock) ∧ some k_ ≠ (.slice Ao19 t668.length co19 : Value).ownBlock) ∧ some k_ ≠ (.slice Ao25 t674.length co25 : Value).ownBlock) ∧ some k_ ≠ (.slice Ao26 t677.length co26 : Value).ownBlock) ∧ some k_ ≠ (.slice Ao34 t685.length co34 : Value).ownBlock) ∧ some k_ ≠ (.slice Ao35 t688.length co35 : Value).ownBlock)) (n := t695.length) (c := co43) ?_).2.2; exact (rf_ (fm_ (fr_ (fr_ (fr_ (ft_ HO697 BK702) 0 (.slice Ao38 t692.length co38)) 1 (.slice Ao43 t695.length co43)) 2 (.slice Ao44 t698.length co44))))); (case side4 => exact (Kd.R_reads' HO697.out).2.1); (case side5 => refine (Kd.R_reads' (e := 25) (base := w.heap.size) (ok := fun k_ => ((((((some k_ ≠ (.slice Ao43 t695.length co43 : Value).ownBlock ∧ some k_ ≠ (.slice Ao18 t665.length co18 : Value).ownBlock) ∧ some k_ ≠ (.slice Ao19 t668.length co19 : Value).ownBlock) ∧ some k_ ≠ (.slice Ao25 t674.length co25 : Value).ownBlock) ∧ some k_ ≠ (.slice Ao26 t677.length co26 : Value).ownBlock) ∧ some k_ ≠ (.slice Ao34 t685.length co34 : Value).ownBlock) ∧ some k_ ≠ (.slice Ao35 t688.length co35 : Value).ownBlock)) (n := t698.length) (c := co44) ?_).2.2; exact (rf_ (fm_ (fr_ (fr_ (fr_ (ft_ HO700 BK702) 0 (.slice Ao38 t692.length co38)) 1 (.slice Ao43 t695.length co43)) 2 (.slice Ao44 t698.length co44))))); (case side6 => exact (Kd.R_reads' HO700.out).2.1); (case side7 => refine (Kd.R_reads' (e := 9) (base := w.heap.size) (ok := fun k_ => (((True ∧ some k_ ≠ (.slice Ao17 t662.length co17 : Value).ownBlock) ∧ some k_ ≠ (.slice Ao30 t682.length co30 : Value).ownBlock) ∧ some k_ ≠ (.slice Ao38 t692.length co38 : Value).ownBlock)) (n := t671.length) (c := co22) ?_).2.2; exact (rf_ (fm_ (fr_ (fr_ (fr_ (ft_ HO673 BK702) 0 (.slice Ao38 t692.length co38)) 1 (.slice Ao43 t695.length co43)) 2 (.slice Ao44 t698.length co44))))); (case side8 => exact (Kd.R_reads' HO673.out).2.1); (case side9 => refine (Kd.R_reads' (e := 25) (base := w.heap.size) (ok := fun k_ => ((((((some k_ ≠ (.slice Ao26 t677.length co26 : Value).ownBlock ∧ some k_ ≠ (.slice Ao18 t665.length co18 : Value).ownBlock) ∧ some k_ ≠ (.slice Ao19 t668.length co19 : Value).ownBlock) ∧ some k_ ≠ (.slice Ao34 t685.length co34 : Value).ownBlock) ∧ some k_ ≠ (.slice Ao35 t688.length co35 : Value).ownBlock) ∧ some k_ ≠ (.slice Ao43 t695.length co43 : Value).ownBlock) ∧ some k_ ≠ (.slice Ao44 t698.length co44 : Value).ownBlock)) (n := t674.length) (c := co25) ?_).2.2; exact (rf_ (fm_ (fr_ (fr_ (fr_ (ft_ HO676 BK702) 0 (.slice Ao38 t692.length co38)) 1 (.slice Ao43 t695.length co43)) 2 (.slice Ao44 t698.length co44))))); (case side10 => exact (Kd.R_reads' HO676.out).2.1); (case side11 => refine (Kd.R_reads' (e := 25) (base := w.heap.size) (ok := fun k_ => ((((((some k_ ≠ (.slice Ao25 t674.length co25 : Value).ownBlock ∧ some k_ ≠ (.slice Ao18 t665.length co18 : Value).ownBlock) ∧ some k_ ≠ (.slice Ao19 t668.length co19 : Value).ownBlock) ∧ some k_ ≠ (.slice Ao34 t685.length co34 : Value).ownBlock) ∧ some k_ ≠ (.slice Ao35 t688.length co35 : Value).ownBlock) ∧ some k_ ≠ (.slice Ao43 t695.length co43 : Value).ownBlock) ∧ some k_ ≠ (.slice Ao44 t698.length co44 : Value).ownBlock)) (n := t677.length) (c := co26) ?_).2.2; exact (rf_ (fm_ (fr_ (fr_ (fr_ (ft_ HO679 BK702) 0 (.slice Ao38 t692.length co38)) 1 (.slice Ao43 t695.length co43)) 2 (.slice Ao44 t698.length co44))))); (case side12 => exact (Kd.R_reads' HO679.out).2.1); rintro e w54 ⟨rfl, hb⟩; refine ⟨_, rfl, ?_⟩; have n0_ := Aside0.mk (Kd.R_below (rf_ (fm_ (fr_ (fr_ (fr_ (ft_ HO664 BK702) 0 (.slice Ao38 t692.length co38)) 1 (.slice Ao43 t695.length co43)) 2 (.slice Ao44 t698.length co44)))) hb); have n1_ := Aside0.mk (Kd.R_below (rf_ (fm_ (fr_ (fr_ (fr_ (ft_ HO667 BK702) 0 (.slice Ao38 t692.length co38)) 1 (.slice Ao43 t695.length co43)) 2 (.slice Ao44 t698.length co44)))) hb); have n2_ := Aside0.mk (Kd.R_below (rf_ (fm_ (fr_ (fr_ (fr_ (ft_ HO670 BK702) 0 (.slice Ao38 t692.length co38)) 1 (.slice Ao43 t695.length co43)) 2 (.slice Ao44 t698.length co44)))) hb); have n3_ := Aside0.mk (Kd.R_below (rf_ (fm_ (fr_ (fr_ (fr_ (ft_ HO673 BK702) 0 (.slice Ao38 t692.length co38)) 1 (.slice Ao43 t695.length co43)) 2 (.slice Ao44 t698.length co44)))) hb); have n4_ := Aside0.mk (Kd.R_below (rf_ (fm_ (fr_ (fr_ (fr_ (ft_ HO676 BK702) 0 (.slice Ao38 t692.length co38)) 1 (.slice Ao43 t695.length co43)) 2 (.slice Ao44 t698.length co44)))) hb); have n5_ := Aside0.mk (Kd.R_below (rf_ (fm_ (fr_ (fr_ (fr_ (ft_ HO679 BK702) 0 (.slice Ao38 t692.length co38)) 1 (.slice Ao43 t695.length co43)) 2 (.slice Ao44 t698.length co44)))) hb); have n6_ := Aside0.mk (Kd.R_below (rf_ (fm_ (fr_ (fr_ (fr_ (ft_ HO684 BK702) 0 (.slice Ao38 t692.length co38)) 1 (.slice Ao43 t695.length co43)) 2 (.slice Ao44 t698.length co44)))) hb); have n7_ := Aside0.mk (Kd.R_below (rf_ (fm_ (fr_ (fr_ (fr_ (ft_ HO687 BK702) 0 (.slice Ao38 t692.length co38)) 1 (.slice Ao43 t695.length co43)) 2 (.slice Ao44 t698.length co44)))) hb); have n8_ := Aside0.mk (Kd.R_below (rf_ (fm_ (fr_ (fr_ (fr_ (ft_ HO690 BK702) 0 (.slice Ao38 t692.length co38)) 1 (.slice Ao43 t695.length co43)) 2 (.slice Ao44 t698.length co44)))) hb); have n9_ := Aside0.mk (Kd.R_below (rf_ (fm_ (fr_ (fr_ (fr_ (ft_ HO694 BK702) 0 (.slice Ao38 t692.length co38)) 1 (.slice Ao43 t695.length co43)) 2 (.slice Ao44 t698.length co44)))) hb); have n10_ := Aside0.mk (Kd.R_below (rf_ (fm_ (fr_ (fr_ (fr_ (ft_ HO697 BK702) 0 (.slice Ao38 t692.length co38)) 1 (.slice Ao43 t695.length co43)) 2 (.slice Ao44 t698.length co44)))) hb); have n11_ := Aside0.mk (Kd.R_below (rf_ (fm_ (fr_ (fr_ (fr_ (ft_ HO700 BK702) 0 (.slice Ao38 t692.length co38)) 1 (.slice Ao43 t695.length co43)) 2 (.slice Ao44 t698.length co44)))) hb); have n12_ := Aside0.mk (blk_below (g := gb660) (o := .cells #[.slice A0_0 l0_0.length c0_0, .slice A0_1 l0_1.length c0_1, .slice A0_2 l0_2.length c0_2] 45 (0, 0)) (by (with_reducible repeat (first | apply lN_ | apply lD_ | apply lA_)); refine blk_far ?_ NB660_702.out _; (with_reducible repeat (first | apply lN_ | apply lD_ | apply lA_)); refine blk_far ?_ NB660_702.out _; (with_reducible repeat (first | apply lN_ | apply lD_ | apply lA_)); refine blk_far ?_ NB660_702.out _; (with_reducible repeat (first | apply lN_ | apply lD_ | apply lA_)); exact BK660.out) hb); have n13_ := Aside0.mk (blk_below (g := gb681) (o := .cells #[.slice Ao22 t671.length co22, .slice Ao25 t674.length co25, .slice Ao26 t677.length co26] 35 (0, 0)) (by (with_reducible repeat (first | apply lN_ | apply lD_ | apply lA_)); refine blk_far ?_ NB681_702.out _; (with_reducible repeat (first | apply lN_ | apply lD_ | apply lA_)); refine blk_far ?_ NB681_702.out _; (with_reducible repeat (first | apply lN_ | apply lD_ | apply lA_)); refine blk_far ?_ NB681_702.out _; (with_reducible repeat (first | apply lN_ | apply lD_ | apply lA_)); exact BK681.out) hb); have n14_ := Aside0.mk (blk_below (g := gb691) (o := .cells #[.slice Ao30 t682.length co30, .slice Ao34 t685.length co34, .slice Ao35 t688.length co35] 35 (0, 0)) (by (with_reducible repeat (first | apply lN_ | apply lD_ | apply lA_)); refine blk_far ?_ NB691_702.out _; (with_reducible repeat (first | apply lN_ | apply lD_ | apply lA_)); refine blk_far ?_ NB691_702.out _; (with_reducible repeat (first | apply lN_ | apply lD_ | apply lA_)); refine blk_far ?_ NB691_702.out _; (with_reducible repeat (first | apply lN_ | apply lD_ | apply lA_)); exact BK691.out) hb); have n15_ := Aside0.mk (blk_below (g := gb702) (o := .cells #[.slice Ao38 t692.length co38, .slice Ao43 t695.length co43, .slice Ao44 t698.length co44] 35 (0, 0)) (by (with_reducible repeat (first | apply lN_ | apply lD_ | apply lA_)); refine blk_put (cs := #[.slice Ao38 t692.length co38, .slice Ao43 t695.length co43, .slice none 0 0]) ?_ 2 _ rfl; (with_reducible repeat (first | apply lN_ | apply lD_ | apply lA_)); refine blk_put (cs := #[.slice Ao38 t692.length co38, .slice none 0 0, .slice none 0 0]) ?_ 1 _ rfl; (with_reducible repeat (first | apply lN_ | apply lD_ | apply lA_)); refine blk_put (cs := #[.slice none 0 0, .slice none 0 0, .slice none 0 0]) ?_ 0 _ rfl; (with_reducible repeat (first | apply lN_ | apply lD_ | apply lA_)); exact BK702.out) hb); have n16_ := Aside0.mk (below_step (bb4_ HB GE660 GE681 GE691 GE702) hb); clear HO664; clear HO667; clear HO670; clear HO673; clear HO676; clear HO679; clear HO684; clear HO687; clear HO690; clear HO694; clear HO697; clear HO700; clear BK660; clear BK681; clear BK691; clear BK702; clear HB; have HO664 := n0_; have HO667 := n1_; have HO670 := n2_; have HO673 := n3_; have HO676 := n4_; have HO679 := n5_; have HO684 := n6_; have HO687 := n7_; have HO690 := n8_; have HO694 := n9_; have HO697 := n10_; have HO700 := n11_; have BK660 := n12_; have BK681 := n13_; have BK691 := n14_; have BK702 := n15_; have HB := n16_; clear n0_ n1_ n2_ n3_ n4_ n5_ n6_ n7_ n8_ n9_ n10_ n11_ n12_ n13_ n14_ n15_ n16_; (try clear hb); (try clear hb2); (try clear hk); (try clear hi)))
    go_meet
    case rel => exact ⟨_, ((t701 != t680)), (by first | rfl | (simp; done) | (simp [*]; done)), H', ⟨by first | omega | exact Nat.le_refl _⟩, ⟨by (with_reducible repeat (first | apply rA_ | apply rN_ | apply rD_)); exact Kd.R_mono HO673.out (fun _ hk => ⟨hk.1.2, hk.2⟩)⟩, ⟨by (with_reducible repeat (first | apply rA_ | apply rN_ | apply rD_)); exact Kd.R_mono HO676.out (fun _ hk => ⟨hk.1.1.1.1.1.1, ⟨hk.1.1.1.2, ⟨hk.1.1.2, ⟨hk.1.2, hk.2⟩⟩⟩⟩)⟩, ⟨by (with_reducible repeat (first | apply rA_ | apply rN_ | apply rD_)); exact Kd.R_mono HO679.out (fun _ hk => ⟨hk.1.1.1.1.1.1, ⟨hk.1.1.1.2, ⟨hk.1.1.2, ⟨hk.1.2, hk.2⟩⟩⟩⟩)⟩, ⟨by (with_reducible repeat (first | apply rA_ | apply rN_ | apply rD_)); exact Kd.R_mono HO684.out (fun _ hk => ⟨hk.1.2, hk.2⟩)⟩, ⟨by (with_reducible repeat (first | apply rA_ | apply rN_ | apply rD_)); exact Kd.R_mono HO687.out (fun _ hk => ⟨hk.1.1.1.2, ⟨hk.1.1.2, ⟨hk.1.1.1.1.1.1, ⟨hk.1.2, hk.2⟩⟩⟩⟩)⟩, ⟨by (with_reducible repeat (first | apply rA_ | apply rN_ | apply rD_)); exact Kd.R_mono HO690.out (fun _ hk => ⟨hk.1.1.1.2, ⟨hk.1.1.2, ⟨hk.1.1.1.1.1.1, ⟨hk.1.2, hk.2⟩⟩⟩⟩)⟩, ⟨by (with_reducible repeat (first | apply rA_ | apply rN_ | apply rD_)); exact Kd.R_mono HO694.out (fun _ hk => ⟨hk.1.2, hk.2⟩)⟩, ⟨by (with_reducible repeat (first | apply rA_ | apply rN_ | apply rD_)); exact Kd.R_mono HO697.out (fun _ hk => ⟨hk.1.1.1.2, ⟨hk.1.1.2, ⟨hk.1.2, ⟨hk.2, hk.1.1.1.1.1.1⟩⟩⟩⟩)⟩, ⟨by (with_reducible repeat (first | apply rA_ | apply rN_ | apply rD_)); exact Kd.R_mono HO700.out (fun _ hk => ⟨hk.1.1.1.2, ⟨hk.1.1.2, ⟨hk.1.2, ⟨hk.2, hk.1.1.1.1.1.1⟩⟩⟩⟩)⟩, ⟨by (with_reducible repeat (first | apply lN_ | apply lD_ | apply lA_)); exact BK660.out⟩, ⟨by (with_reducible repeat (first | apply lN_ | apply lD_ | apply lA_)); exact BK681.out⟩, ⟨by (with_reducible repeat (first | apply lN_ | apply lD_ | apply lA_)); exact BK691.out⟩, ⟨by (with_reducible repeat (first | apply lN_ | apply lD_ | apply lA_)); exact BK702.out⟩, ⟨bb4_ HB GE660 GE681 GE691 GE702⟩⟩
   ·replace c46 := Bool.eq_false_iff.mpr c46
    subst c46
    have H1 : (laws_FnExactRedoEdit.j0 k t680 t701 true l0_0 l0_1 l0_2 t671 t674 t677 t682 t685 t688 t692 t695 t698) = some r := by rw [if_neg (show ¬ (false = true) by decide)] at H; exact H
    clear H
    have H := H1
    clear H1
    have H' := Aside0.mk H
    clear H
    have hnb55 := NB702_660.out
    have hnc55 := NB660_702.out
    have hnb56 := NB702_681.out
    have hnc56 := NB681_702.out
    have hnb57 := NB702_691.out
    have hnc57 := NB691_702.out
    have hcz58_0 : w37.cell? ⟨gb702, 0, none⟩ = some (.slice none 0 0) := (blk_cell BK702.out 0).trans rfl
    have hcz58_1 : w37.cell? ⟨gb702, 1, none⟩ = some (.slice none 0 0) := (blk_cell BK702.out 1).trans rfl
    have hcz58_2 : w37.cell? ⟨gb702, 2, none⟩ = some (.slice none 0 0) := (blk_cell BK702.out 2).trans rfl
    have hfz58_0 := blk_frozen BK702.out 0
    have hfz58_1 := blk_frozen BK702.out 1
    have hfz58_2 := blk_frozen BK702.out 2
    have hnb59 := NB681_660.out
    have hnc59 := NB660_681.out
    have hnb60 := NB681_691.out
    have hnc60 := NB691_681.out
    have hcz61_0 : w37.cell? ⟨gb681, 0, none⟩ = some (.slice Ao22 t671.length co22) := (blk_cell BK681.out 0).trans rfl
    have hcz61_1 : w37.cell? ⟨gb681, 1, none⟩ = some (.slice Ao25 t674.length co25) := (blk_cell BK681.out 1).trans rfl
    have hcz61_2 : w37.cell? ⟨gb681, 2, none⟩ = some (.slice Ao26 t677.length co26) := (blk_cell BK681.out 2).trans rfl
    have hfz61_0 := blk_frozen BK681.out 0
    have hfz61_1 := blk_frozen BK681.out 1
    have hfz61_2 := blk_frozen BK681.out 2
    go_wp2_with (first | ((with_reducible refine gate_callee (f := 23) rfl ?_); refine goesL_ (some 34) rfl rfl Try.func23 (by kernel_rfl) rfl #[.agg #[.slice Ao38 t692.length co38, .slice Ao43 t695.length co43, .slice Ao44 t698.length co44], .agg #[.slice Ao22 t671.length co22, .slice Ao25 t674.length co25, .slice Ao26 t677.length co26]] rfl args_ ?_; (with_reducible refine (laws_eqDesk.calls k _ _ t692 _ _ t695 _ _ t698 _ _ t671 _ _ t674 _ _ t677 false _ ?side1 ?side2 ?side3 ?side4 ?side5 ?side6 ?side7 ?side8 ?side9 ?side10 ?side11 ?side12 A45.out).mono ?_); (case side1 => refine (Kd.R_reads' (e := 9) (base := w.heap.size) (ok := fun k_ => (((True ∧ some k_ ≠ (.slice Ao17 t662.length co17 : Value).ownBlock) ∧ some k_ ≠ (.slice Ao22 t671.length co22 : Value).ownBlock) ∧ some k_ ≠ (.slice Ao30 t682.length co30 : Value).ownBlock)) (n := t692.length) (c := co38) ?_).2.2; exact (rf_ (fm_ (fr_ (fr_ (fr_ (ft_ HO694 BK702) 0 (.slice Ao38 t692.length co38)) 1 (.slice Ao43 t695.length co43)) 2 (.slice Ao44 t698.length co44))))); (case side2 => exact (Kd.R_reads' HO694.out).2.1); (case side3 => refine (Kd.R_reads' (e := 25) (base := w.heap.size) (ok := fun k_ => ((((((some k_ ≠ (.slice Ao44 t698.length co44 : Value).ownBlock ∧ some k_ ≠ (.slice Ao18 t665.length co18 : Value).ownBlock) ∧ some k_ ≠ (.slice Ao19 t668.length co19 : Value).ownBlock) ∧ some k_ ≠ (.slice Ao25 t674.length co25 : Value).ownBlock) ∧ some k_ ≠ (.slice Ao26 t677.length co26 : Value).ownBlock) ∧ some k_ ≠ (.slice Ao34 t685.length co34 : Value).ownBlock) ∧ some k_ ≠ (.slice Ao35 t688.length co35 : Value).ownBlock)) (n := t695.length) (c := co43) ?_).2.2; exact (rf_ (fm_ (fr_ (fr_ (fr_ (ft_ HO697 BK702) 0 (.slice Ao38 t692.length co38)) 1 (.slice Ao43 t695.length co43)) 2 (.slice Ao44 t698.length co44))))); (case side4 => exact (Kd.R_reads' HO697.out).2.1); (case side5 => refine (Kd.R_reads' (e := 25) (base := w.heap.size) (ok := fun k_ => ((((((some k_ ≠ (.slice Ao43 t695.length co43 : Value).ownBlock ∧ some k_ ≠ (.slice Ao18 t665.length co18 : Value).ownBlock) ∧ some k_ ≠ (.slice Ao19 t668.length co19 : Value).ownBlock) ∧ some k_ ≠ (.slice Ao25 t674.length co25 : Value).ownBlock) ∧ some k_ ≠ (.slice Ao26 t677.length co26 : Value).ownBlock) ∧ some k_ ≠ (.slice Ao34 t685.length co34 : Value).ownBlock) ∧ some k_ ≠ (.slice Ao35 t688.length co35 : Value).ownBlock)) (n := t698.length) (c := co44) ?_).2.2; exact (rf_ (fm_ (fr_ (fr_ (fr_ (ft_ HO700 BK702) 0 (.slice Ao38 t692.length co38)) 1 (.slice Ao43 t695.length co43)) 2 (.slice Ao44 t698.length co44))))); (case side6 => exact (Kd.R_reads' HO700.out).2.1); (case side7 => refine (Kd.R_reads' (e := 9) (base := w.heap.size) (ok := fun k_ => (((True ∧ some k_ ≠ (.slice Ao17 t662.length co17 : Value).ownBlock) ∧ some k_ ≠ (.slice Ao30 t682.length co30 : Value).ownBlock) ∧ some k_ ≠ (.slice Ao38 t692.length co38 : Value).ownBlock)) (n := t671.length) (c := co22) ?_).2.2; exact (rf_ (fm_ (fr_ (fr_ (fr_ (ft_ HO673 BK702) 0 (.slice Ao38 t692.length co38)) 1 (.slice Ao43 t695.length co43)) 2 (.slice Ao44 t698.length co44))))); (case side8 => exact (Kd.R_reads' HO673.out).2.1); (case side9 => refine (Kd.R_reads' (e := 25) (base := w.heap.size) (ok := fun k_ => ((((((some k_ ≠ (.slice Ao26 t677.length co26 : Value).ownBlock ∧ some k_ ≠ (.slice Ao18 t665.length co18 : Value).ownBlock) ∧ some k_ ≠ (.slice Ao19 t668.length co19 : Value).ownBlock) ∧ some k_ ≠ (.slice Ao34 t685.length co34 : Value).ownBlock) ∧ some k_ ≠ (.slice Ao35 t688.length co35 : Value).ownBlock) ∧ some k_ ≠ (.slice Ao43 t695.length co43 : Value).ownBlock) ∧ some k_ ≠ (.slice Ao44 t698.length co44 : Value).ownBlock)) (n := t674.length) (c := co25) ?_).2.2; exact (rf_ (fm_ (fr_ (fr_ (fr_ (ft_ HO676 BK702) 0 (.slice Ao38 t692.length co38)) 1 (.slice Ao43 t695.length co43)) 2 (.slice Ao44 t698.length co44))))); (case side10 => exact (Kd.R_reads' HO676.out).2.1); (case side11 => refine (Kd.R_reads' (e := 25) (base := w.heap.size) (ok := fun k_ => ((((((some k_ ≠ (.slice Ao25 t674.length co25 : Value).ownBlock ∧ some k_ ≠ (.slice Ao18 t665.length co18 : Value).ownBlock) ∧ some k_ ≠ (.slice Ao19 t668.length co19 : Value).ownBlock) ∧ some k_ ≠ (.slice Ao34 t685.length co34 : Value).ownBlock) ∧ some k_ ≠ (.slice Ao35 t688.length co35 : Value).ownBlock) ∧ some k_ ≠ (.slice Ao43 t695.length co43 : Value).ownBlock) ∧ some k_ ≠ (.slice Ao44 t698.length co44 : Value).ownBlock)) (n := t677.length) (c := co26) ?_).2.2; exact (rf_ (fm_ (fr_ (fr_ (fr_ (ft_ HO679 BK702) 0 (.slice Ao38 t692.length co38)) 1 (.slice Ao43 t695.length co43)) 2 (.slice Ao44 t698.length co44))))); (case side12 => exact (Kd.R_reads' HO679.out).2.1); rintro e w62 ⟨rfl, hb⟩; refine ⟨_, rfl, ?_⟩; have n0_ := Aside0.mk (Kd.R_below (rf_ (fm_ (fr_ (fr_ (fr_ (ft_ HO664 BK702) 0 (.slice Ao38 t692.length co38)) 1 (.slice Ao43 t695.length co43)) 2 (.slice Ao44 t698.length co44)))) hb); have n1_ := Aside0.mk (Kd.R_below (rf_ (fm_ (fr_ (fr_ (fr_ (ft_ HO667 BK702) 0 (.slice Ao38 t692.length co38)) 1 (.slice Ao43 t695.length co43)) 2 (.slice Ao44 t698.length co44)))) hb); have n2_ := Aside0.mk (Kd.R_below (rf_ (fm_ (fr_ (fr_ (fr_ (ft_ HO670 BK702) 0 (.slice Ao38 t692.length co38)) 1 (.slice Ao43 t695.length co43)) 2 (.slice Ao44 t698.length co44)))) hb); have n3_ := Aside0.mk (Kd.R_below (rf_ (fm_ (fr_ (fr_ (fr_ (ft_ HO673 BK702) 0 (.slice Ao38 t692.length co38)) 1 (.slice Ao43 t695.length co43)) 2 (.slice Ao44 t698.length co44)))) hb); have n4_ := Aside0.mk (Kd.R_below (rf_ (fm_ (fr_ (fr_ (fr_ (ft_ HO676 BK702) 0 (.slice Ao38 t692.length co38)) 1 (.slice Ao43 t695.length co43)) 2 (.slice Ao44 t698.length co44)))) hb); have n5_ := Aside0.mk (Kd.R_below (rf_ (fm_ (fr_ (fr_ (fr_ (ft_ HO679 BK702) 0 (.slice Ao38 t692.length co38)) 1 (.slice Ao43 t695.length co43)) 2 (.slice Ao44 t698.length co44)))) hb); have n6_ := Aside0.mk (Kd.R_below (rf_ (fm_ (fr_ (fr_ (fr_ (ft_ HO684 BK702) 0 (.slice Ao38 t692.length co38)) 1 (.slice Ao43 t695.length co43)) 2 (.slice Ao44 t698.length co44)))) hb); have n7_ := Aside0.mk (Kd.R_below (rf_ (fm_ (fr_ (fr_ (fr_ (ft_ HO687 BK702) 0 (.slice Ao38 t692.length co38)) 1 (.slice Ao43 t695.length co43)) 2 (.slice Ao44 t698.length co44)))) hb); have n8_ := Aside0.mk (Kd.R_below (rf_ (fm_ (fr_ (fr_ (fr_ (ft_ HO690 BK702) 0 (.slice Ao38 t692.length co38)) 1 (.slice Ao43 t695.length co43)) 2 (.slice Ao44 t698.length co44)))) hb); have n9_ := Aside0.mk (Kd.R_below (rf_ (fm_ (fr_ (fr_ (fr_ (ft_ HO694 BK702) 0 (.slice Ao38 t692.length co38)) 1 (.slice Ao43 t695.length co43)) 2 (.slice Ao44 t698.length co44)))) hb); have n10_ := Aside0.mk (Kd.R_below (rf_ (fm_ (fr_ (fr_ (fr_ (ft_ HO697 BK702) 0 (.slice Ao38 t692.length co38)) 1 (.slice Ao43 t695.length co43)) 2 (.slice Ao44 t698.length co44)))) hb); have n11_ := Aside0.mk (Kd.R_below (rf_ (fm_ (fr_ (fr_ (fr_ (ft_ HO700 BK702) 0 (.slice Ao38 t692.length co38)) 1 (.slice Ao43 t695.length co43)) 2 (.slice Ao44 t698.length co44)))) hb); have n12_ := Aside0.mk (blk_below (g := gb660) (o := .cells #[.slice A0_0 l0_0.length c0_0, .slice A0_1 l0_1.length c0_1, .slice A0_2 l0_2.length c0_2] 45 (0, 0)) (by (with_reducible repeat (first | apply lN_ | apply lD_ | apply lA_)); refine blk_far ?_ NB660_702.out _; (with_reducible repeat (first | apply lN_ | apply lD_ | apply lA_)); refine blk_far ?_ NB660_702.out _; (with_reducible repeat (first | apply lN_ | apply lD_ | apply lA_)); refine blk_far ?_ NB660_702.out _; (with_reducible repeat (first | apply lN_ | apply lD_ | apply lA_)); exact BK660.out) hb); have n13_ := Aside0.mk (blk_below (g := gb681) (o := .cells #[.slice Ao22 t671.length co22, .slice Ao25 t674.length co25, .slice Ao26 t677.length co26] 35 (0, 0)) (by (with_reducible repeat (first | apply lN_ | apply lD_ | apply lA_)); refine blk_far ?_ NB681_702.out _; (with_reducible repeat (first | apply lN_ | apply lD_ | apply lA_)); refine blk_far ?_ NB681_702.out _; (with_reducible repeat (first | apply lN_ | apply lD_ | apply lA_)); refine blk_far ?_ NB681_702.out _; (with_reducible repeat (first | apply lN_ | apply lD_ | apply lA_)); exact BK681.out) hb); have n14_ := Aside0.mk (blk_below (g := gb691) (o := .cells #[.slice Ao30 t682.length co30, .slice Ao34 t685.length co34, .slice Ao35 t688.length co35] 35 (0, 0)) (by (with_reducible repeat (first | apply lN_ | apply lD_ | apply lA_)); refine blk_far ?_ NB691_702.out _; (with_reducible repeat (first | apply lN_ | apply lD_ | apply lA_)); refine blk_far ?_ NB691_702.out _; (with_reducible repeat (first | apply lN_ | apply lD_ | apply lA_)); refine blk_far ?_ NB691_702.out _; (with_reducible repeat (first | apply lN_ | apply lD_ | apply lA_)); exact BK691.out) hb); have n15_ := Aside0.mk (blk_below (g := gb702) (o := .cells #[.slice Ao38 t692.length co38, .slice Ao43 t695.length co43, .slice Ao44 t698.length co44] 35 (0, 0)) (by (with_reducible repeat (first | apply lN_ | apply lD_ | apply lA_)); refine blk_put (cs := #[.slice Ao38 t692.length co38, .slice Ao43 t695.length co43, .slice none 0 0]) ?_ 2 _ rfl; (with_reducible repeat (first | apply lN_ | apply lD_ | apply lA_)); refine blk_put (cs := #[.slice Ao38 t692.length co38, .slice none 0 0, .slice none 0 0]) ?_ 1 _ rfl; (with_reducible repeat (first | apply lN_ | apply lD_ | apply lA_)); refine blk_put (cs := #[.slice none 0 0, .slice none 0 0, .slice none 0 0]) ?_ 0 _ rfl; (with_reducible repeat (first | apply lN_ | apply lD_ | apply lA_)); exact BK702.out) hb); have n16_ := Aside0.mk (below_step (bb4_ HB GE660 GE681 GE691 GE702) hb); clear HO664; clear HO667; clear HO670; clear HO673; clear HO676; clear HO679; clear HO684; clear HO687; clear HO690; clear HO694; clear HO697; clear HO700; clear BK660; clear BK681; clear BK691; clear BK702; clear HB; have HO664 := n0_; have HO667 := n1_; have HO670 := n2_; have HO673 := n3_; have HO676 := n4_; have HO679 := n5_; have HO684 := n6_; have HO687 := n7_; have HO690 := n8_; have HO694 := n9_; have HO697 := n10_; have HO700 := n11_; have BK660 := n12_; have BK681 := n13_; have BK691 := n14_; have BK702 := n15_; have HB := n16_; clear n0_ n1_ n2_ n3_ n4_ n5_ n6_ n7_ n8_ n9_ n10_ n11_ n12_ n13_ n14_ n15_ n16_; (try clear hb); (try clear hb2); (try clear hk); (try clear hi)))
    go_meet
    case rel => exact ⟨_, (true), (by first | rfl | (simp; done) | (simp [*]; done)), H', ⟨by first | omega | exact Nat.le_refl _⟩, ⟨by (with_reducible repeat (first | apply rA_ | apply rN_ | apply rD_)); exact Kd.R_mono HO673.out (fun _ hk => ⟨hk.1.2, hk.2⟩)⟩, ⟨by (with_reducible repeat (first | apply rA_ | apply rN_ | apply rD_)); exact Kd.R_mono HO676.out (fun _ hk => ⟨hk.1.1.1.1.1.1, ⟨hk.1.1.1.2, ⟨hk.1.1.2, ⟨hk.1.2, hk.2⟩⟩⟩⟩)⟩, ⟨by (with_reducible repeat (first | apply rA_ | apply rN_ | apply rD_)); exact Kd.R_mono HO679.out (fun _ hk => ⟨hk.1.1.1.1.1.1, ⟨hk.1.1.1.2, ⟨hk.1.1.2, ⟨hk.1.2, hk.2⟩⟩⟩⟩)⟩, ⟨by (with_reducible repeat (first | apply rA_ | apply rN_ | apply rD_)); exact Kd.R_mono HO684.out (fun _ hk => ⟨hk.1.2, hk.2⟩)⟩, ⟨by (with_reducible repeat (first | apply rA_ | apply rN_ | apply rD_)); exact Kd.R_mono HO687.out (fun _ hk => ⟨hk.1.1.1.2, ⟨hk.1.1.2, ⟨hk.1.1.1.1.1.1, ⟨hk.1.2, hk.2⟩⟩⟩⟩)⟩, ⟨by (with_reducible repeat (first | apply rA_ | apply rN_ | apply rD_)); exact Kd.R_mono HO690.out (fun _ hk => ⟨hk.1.1.1.2, ⟨hk.1.1.2, ⟨hk.1.1.1.1.1.1, ⟨hk.1.2, hk.2⟩⟩⟩⟩)⟩, ⟨by (with_reducible repeat (first | apply rA_ | apply rN_ | apply rD_)); exact Kd.R_mono HO694.out (fun _ hk => ⟨hk.1.2, hk.2⟩)⟩, ⟨by (with_reducible repeat (first | apply rA_ | apply rN_ | apply rD_)); exact Kd.R_mono HO697.out (fun _ hk => ⟨hk.1.1.1.2, ⟨hk.1.1.2, ⟨hk.1.2, ⟨hk.2, hk.1.1.1.1.1.1⟩⟩⟩⟩)⟩, ⟨by (with_reducible repeat (first | apply rA_ | apply rN_ | apply rD_)); exact Kd.R_mono HO700.out (fun _ hk => ⟨hk.1.1.1.2, ⟨hk.1.1.2, ⟨hk.1.2, ⟨hk.2, hk.1.1.1.1.1.1⟩⟩⟩⟩)⟩, ⟨by (with_reducible repeat (first | apply lN_ | apply lD_ | apply lA_)); exact BK660.out⟩, ⟨by (with_reducible repeat (first | apply lN_ | apply lD_ | apply lA_)); exact BK681.out⟩, ⟨by (with_reducible repeat (first | apply lN_ | apply lD_ | apply lA_)); exact BK691.out⟩, ⟨by (with_reducible repeat (first | apply lN_ | apply lD_ | apply lA_)); exact BK702.out⟩, ⟨bb4_ HB GE660 GE681 GE691 GE702⟩⟩
  case rest =>
   clear HC11
   try clear c2
   try clear p2
   try clear c3
   try clear c3b0
   try clear c4
   try clear c5
   try clear c6
   try clear c8
   try clear c23
   try clear c28
   try clear c30
   try clear c31
   try clear c32
   try clear c37
   try clear c38
   try clear c39
   try clear c40
   try clear c41
   try clear c46
   try clear c47
   try clear c48
   try clear c49
   try clear c51
   try clear c52
   try clear c55
   try clear c56
   try clear c57
   try clear c59
   try clear c60
   try clear hcz13_0
   try clear hcz13_1
   try clear hcz13_2
   try clear hcz15_0
   try clear hcz15_1
   try clear hcz15_2
   try clear hcz24_0
   try clear hcz24_1
   try clear hcz24_2
   try clear hcz27_0
   try clear hcz27_1
   try clear hcz27_2
   try clear hcz33_0
   try clear hcz33_1
   try clear hcz33_2
   try clear hcz42_0
   try clear hcz42_1
   try clear hcz42_2
   try clear hcz50_0
   try clear hcz50_1
   try clear hcz50_2
   try clear hcz53_0
   try clear hcz53_1
   try clear hcz53_2
   try clear hcz58_0
   try clear hcz58_1
   try clear hcz58_2
   try clear hcz5_0
   try clear hcz5_1
   try clear hcz5_2
   try clear hcz61_0
   try clear hcz61_1
   try clear hcz61_2
   try clear hfz13_0
   try clear hfz13_1
   try clear hfz13_2
   try clear hfz15_0
   try clear hfz15_1
   try clear hfz15_2
   try clear hfz24_0
   try clear hfz24_1
   try clear hfz24_2
   try clear hfz27_0
   try clear hfz27_1
   try clear hfz27_2
   try clear hfz33_0
   try clear hfz33_1
   try clear hfz33_2
   try clear hfz42_0
   try clear hfz42_1
   try clear hfz42_2
   try clear hfz50_0
   try clear hfz50_1
   try clear hfz50_2
   try clear hfz53_0
   try clear hfz53_1
   try clear hfz53_2
   try clear hfz58_0
   try clear hfz58_1
   try clear hfz58_2
   try clear hfz5_0
   try clear hfz5_1
   try clear hfz5_2
   try clear hfz61_0
   try clear hfz61_1
   try clear hfz61_2
   obtain ⟨kq, x40_10, rfl, HA, HJ10, HO_682000, HO_682001, HO_682002, HO_692000, HO_692001, HO_692002, HO_703000, HO_703001, HO_703002, BK660, BK681, BK691, BK702, HB⟩ := hcut
   cases kq with
   | zero => exact absurd HA.out (by simp [laws_FnExactRedoEdit.j0])
   | succ kj10 =>
    have H := HA.out
    clear HA
    simp only [laws_FnExactRedoEdit.j0] at H
    by_cases c63 : x40_10 = true
    ·subst c63
     have H1 : (none) = some r := by rw [if_pos rfl] at H; exact H
     clear H
     have H := H1
     clear H1
     exact absurd H (by simp)
    ·replace c63 := Bool.eq_false_iff.mpr c63
     subst c63
     have H1 : ((laws_toDesk.f kj10 l0_0 l0_1 l0_2).bind fun bt704 => ((laws_eqDesk.f kj10 t682 t685 t688 bt704.1 bt704.2.1 bt704.2.2).bind fun t713 => (if t713 = true then ((laws_markDesk.f kj10 t682 t685 t688 1).bind fun bt714 => (if bt714.1 < 0 then (laws_FnExactRedoEdit.j1 kj10 t680 true l0_0 l0_1 l0_2 t671 t674 t677 t692 t695 t698) else ((laws_eqDesk.f kj10 t692 t695 t698 t671 t674 t677).bind fun t718 => (if t718 = true then (laws_FnExactRedoEdit.j1 kj10 t680 (t701 != t680) l0_0 l0_1 l0_2 t671 t674 t677 t692 t695 t698) else (laws_FnExactRedoEdit.j1 kj10 t680 true l0_0 l0_1 l0_2 t671 t674 t677 t692 t695 t698))))) else (none)))) = some r := by rw [if_neg (show ¬ (false = true) by decide)] at H; exact H
     clear H
     have H := H1
     clear H1
     replace H := Option.bind_eq_some_iff.mp H
     obtain ⟨⟨t704, t707, t710⟩, A640, H⟩ := H
     try dsimp only at H
     have A64 := Aside0.mk A640
     clear A640
     replace H := Option.bind_eq_some_iff.mp H
     obtain ⟨t713, A650, H⟩ := H
     try dsimp only at H
     have A65 := Aside0.mk A650
     clear A650
     by_cases c66 : t713 = true
     ·subst c66
      have H1 : ((laws_markDesk.f kj10 t682 t685 t688 1).bind fun bt714 => (if bt714.1 < 0 then (laws_FnExactRedoEdit.j1 kj10 t680 true l0_0 l0_1 l0_2 t671 t674 t677 t692 t695 t698) else ((laws_eqDesk.f kj10 t692 t695 t698 t671 t674 t677).bind fun t718 => (if t718 = true then (laws_FnExactRedoEdit.j1 kj10 t680 (t701 != t680) l0_0 l0_1 l0_2 t671 t674 t677 t692 t695 t698) else (laws_FnExactRedoEdit.j1 kj10 t680 true l0_0 l0_1 l0_2 t671 t674 t677 t692 t695 t698))))) = some r := by rw [if_pos rfl] at H; exact H
      clear H
      have H := H1
      clear H1
      replace H := Option.bind_eq_some_iff.mp H
      obtain ⟨⟨t714, t715, t716, t717⟩, A670, H⟩ := H
      try dsimp only at H
      have A67 := Aside0.mk A670
      clear A670
      have HC68 := Aside0.mk H
      clear H
      try go_wp2
      have n0_ := Aside0.mk (Kd.R_drew HO_682000.out)
      have n1_ := Aside0.mk (Kd.R_drew HO_682001.out)
      have n2_ := Aside0.mk (Kd.R_drew HO_682002.out)
      have n3_ := Aside0.mk (Kd.R_drew HO_692000.out)
      have n4_ := Aside0.mk (Kd.R_drew HO_692001.out)
      have n5_ := Aside0.mk (Kd.R_drew HO_692002.out)
      have n6_ := Aside0.mk (Kd.R_drew HO_703000.out)
      have n7_ := Aside0.mk (Kd.R_drew HO_703001.out)
      have n8_ := Aside0.mk (Kd.R_drew HO_703002.out)
      have n9_ := Aside0.mk (blk_drew BK660.out)
      have n10_ := Aside0.mk (blk_drew BK681.out)
      have n11_ := Aside0.mk (blk_drew BK691.out)
      have n12_ := Aside0.mk (blk_drew BK702.out)
      have n13_ := Aside0.mk (below_drew1 HB.out)
      clear HO_682000
      clear HO_682001
      clear HO_682002
      clear HO_692000
      clear HO_692001
      clear HO_692002
      clear HO_703000
      clear HO_703001
      clear HO_703002
      clear BK660
      clear BK681
      clear BK691
      clear BK702
      clear HB
      have HO_682000 := n0_
      have HO_682001 := n1_
      have HO_682002 := n2_
      have HO_692000 := n3_
      have HO_692001 := n4_
      have HO_692002 := n5_
      have HO_703000 := n6_
      have HO_703001 := n7_
      have HO_703002 := n8_
      have BK660 := n9_
      have BK681 := n10_
      have BK691 := n11_
      have BK702 := n12_
      have HB := n13_
      clear n0_ n1_ n2_ n3_ n4_ n5_ n6_ n7_ n8_ n9_ n10_ n11_ n12_ n13_
      refine start_ (n := 5) (S := fun w' => w'.cell? ⟨gb691, 0, none⟩ = some (.slice Ao30 t682.length co30) ∧ w'.cell? ⟨gb691, 1, none⟩ = some (.slice Ao34 t685.length co34) ∧ w'.cell? ⟨gb691, 2, none⟩ = some (.slice Ao35 t688.length co35) ∧ w'.cell? ⟨gb660, 0, none⟩ = some (.slice A0_0 l0_0.length c0_0) ∧ w'.cell? ⟨gb660, 1, none⟩ = some (.slice A0_1 l0_1.length c0_1) ∧ w'.cell? ⟨gb660, 2, none⟩ = some (.slice A0_2 l0_2.length c0_2)) (ds := []) #[false, false, false, false, false] (by kernel_rfl) rfl rfl ⟨(blk_cell BK691.out 0).trans rfl, (blk_cell BK691.out 1).trans rfl, (blk_cell BK691.out 2).trans rfl, (blk_cell BK660.out 0).trans rfl, (blk_cell BK660.out 1).trans rfl, (blk_cell BK660.out 2).trans rfl⟩ (fun hHeld => ?_)
      generalize wc.drew = w69 at HO_682000 HO_682001 HO_682002 HO_692000 HO_692001 HO_692002 HO_703000 HO_703001 HO_703002 BK660 BK681 BK691 BK702 HB hHeld ⊢
      refine take_ (i := 0) (N := some 41) (v := ?_) (a' := ?_) #[true, false, false, false, false] rfl rfl (by kernel_rfl) (fun _ _ _ h => h) (Or.inl ⟨by rfl, ?_⟩) hHeld ?_ ?_
      rotate_left
      ·rintro w' ⟨s0, s1, s2, s3, s4, s5⟩
       go_simp
       with_reducible rfl
      rotate_left
      ·simp only [Act.put, List.setIfInBounds_toArray, List.set_cons_zero, List.set_cons_succ, i64_w, i32_w]
       rfl
      refine take_ (i := 1) (N := some 42) (v := ?_) (a' := ?_) #[true, true, false, false, false] rfl rfl (by kernel_rfl) (fun _ _ _ h => h) (Or.inl ⟨by rfl, ?_⟩) hHeld ?_ ?_
      rotate_left
      ·rintro w' ⟨s0, s1, s2, s3, s4, s5⟩
       go_simp
       with_reducible rfl
      rotate_left
      ·simp only [Act.put, List.setIfInBounds_toArray, List.set_cons_zero, List.set_cons_succ, i64_w, i32_w]
       rfl
      refine one_ (i := 2) (N := some 43) #[true, true, true, false, false] rfl rfl (by kernel_rfl) (by decide) (fun K hK => ?_)
      refine goes_ Try.func30 (by kernel_rfl) rfl #[.agg #[.slice A0_0 l0_0.length c0_0, .slice A0_1 l0_1.length c0_1, .slice A0_2 l0_2.length c0_2]] (by rfl) rfl rfl args_ ?_
      with_reducible refine (laws_toDesk.calls kj10 _ _ l0_0 _ _ l0_1 _ _ l0_2 t704 t707 t710 _ ?side1 ?side2 ?side3 ?side4 ?side5 ?side6 A64.out).mono ?_
      (case side1 => repeat (first | exact (Kd.C_below HR0_0.out HB.out) | (with_reducible first | apply cA_ | apply cN_ | apply cD_)))
      (case side2 => exact HC0_0.out)
      (case side3 => repeat (first | exact (Kd.C_below HR0_1.out HB.out) | (with_reducible first | apply cA_ | apply cN_ | apply cD_)))
      (case side4 => exact HC0_1.out)
      (case side5 => repeat (first | exact (Kd.C_below HR0_2.out HB.out) | (with_reducible first | apply cA_ | apply cN_ | apply cD_)))
      (case side6 => exact HC0_2.out)
      rintro e w70 ⟨v705, v708, v711, rfl, ho0, ho1, ho2, hb⟩
      refine ⟨_, rfl, ?_⟩
      have n0_ := Aside0.mk (Kd.R_elder' (ra_ HO_682000) (Kd.R_base ho0) hb)
      have n1_ := Aside0.mk (Kd.R_mono (Kd.R_told (Kd.R_told (Kd.R_old (ra_ HO_682001) hb) (Kd.R_base ho1)) (Kd.R_base ho2)) (fun _ h_ => h_.1))
      have n2_ := Aside0.mk (Kd.R_mono (Kd.R_told (Kd.R_told (Kd.R_old (ra_ HO_682002) hb) (Kd.R_base ho1)) (Kd.R_base ho2)) (fun _ h_ => h_.1))
      have n3_ := Aside0.mk (Kd.R_elder' (ra_ HO_692000) (Kd.R_base ho0) hb)
      have n4_ := Aside0.mk (Kd.R_mono (Kd.R_told (Kd.R_told (Kd.R_old (ra_ HO_692001) hb) (Kd.R_base ho1)) (Kd.R_base ho2)) (fun _ h_ => h_.1))
      have n5_ := Aside0.mk (Kd.R_mono (Kd.R_told (Kd.R_told (Kd.R_old (ra_ HO_692002) hb) (Kd.R_base ho1)) (Kd.R_base ho2)) (fun _ h_ => h_.1))
      have n6_ := Aside0.mk (Kd.R_elder' (ra_ HO_703000) (Kd.R_base ho0) hb)
      have n7_ := Aside0.mk (Kd.R_mono (Kd.R_told (Kd.R_told (Kd.R_old (ra_ HO_703001) hb) (Kd.R_base ho1)) (Kd.R_base ho2)) (fun _ h_ => h_.1))
      have n8_ := Aside0.mk (Kd.R_mono (Kd.R_told (Kd.R_told (Kd.R_old (ra_ HO_703002) hb) (Kd.R_base ho1)) (Kd.R_base ho2)) (fun _ h_ => h_.1))
      have n9_ := Aside0.mk (Kd.R_lower (Kd.R_new' (Kd.R_new' (Kd.R_new' ho0 (Kd.R_lt (ra_ HO_682000))) (Kd.R_lt (ra_ HO_692000))) (Kd.R_lt (ra_ HO_703000))) (below_size (bb4_ HB GE660 GE681 GE691 GE702)))
      have n10_ := Aside0.mk (Kd.R_lower (Kd.R_new' (Kd.R_new' (Kd.R_new' (Kd.R_new' (Kd.R_new' (Kd.R_new' ho1 (Kd.R_lt (ra_ HO_682001))) (Kd.R_lt (ra_ HO_682002))) (Kd.R_lt (ra_ HO_692001))) (Kd.R_lt (ra_ HO_692002))) (Kd.R_lt (ra_ HO_703001))) (Kd.R_lt (ra_ HO_703002))) (below_size (bb4_ HB GE660 GE681 GE691 GE702)))
      have n11_ := Aside0.mk (Kd.R_lower (Kd.R_new' (Kd.R_new' (Kd.R_new' (Kd.R_new' (Kd.R_new' (Kd.R_new' ho2 (Kd.R_lt (ra_ HO_682001))) (Kd.R_lt (ra_ HO_682002))) (Kd.R_lt (ra_ HO_692001))) (Kd.R_lt (ra_ HO_692002))) (Kd.R_lt (ra_ HO_703001))) (Kd.R_lt (ra_ HO_703002))) (below_size (bb4_ HB GE660 GE681 GE691 GE702)))
      have n12_ := Aside0.mk (lb_ BK660 hb)
      have n13_ := Aside0.mk (lb_ BK681 hb)
      have n14_ := Aside0.mk (lb_ BK691 hb)
      have n15_ := Aside0.mk (lb_ BK702 hb)
      have n16_ := Aside0.mk (below_step (bb4_ HB GE660 GE681 GE691 GE702) hb)
      clear HO_682000
      clear HO_682001
      clear HO_682002
      clear HO_692000
      clear HO_692001
      clear HO_692002
      clear HO_703000
      clear HO_703001
      clear HO_703002
      clear BK660
      clear BK681
      clear BK691
      clear BK702
      clear HB
      have HO_682000 := n0_
      have HO_682001 := n1_
      have HO_682002 := n2_
      have HO_692000 := n3_
      have HO_692001 := n4_
      have HO_692002 := n5_
      have HO_703000 := n6_
      have HO_703001 := n7_
      have HO_703002 := n8_
      have HO706 := n9_
      have HO709 := n10_
      have HO712 := n11_
      have BK660 := n12_
      have BK681 := n13_
      have BK691 := n14_
      have BK702 := n15_
      have HB := n16_
      clear n0_ n1_ n2_ n3_ n4_ n5_ n6_ n7_ n8_ n9_ n10_ n11_ n12_ n13_ n14_ n15_ n16_
      (try clear hb)
      (try clear hb2)
      (try clear hk)
      (try clear hi)
      (try clear ho0)
      (try clear ho1)
      (try clear ho2)
      obtain ⟨Ao71, co71, eo71⟩ := Kd.R_slice HO706.out
      (first | subst eo71 | (injection eo71 with f1_ f2_ f3_; have f4_ := f1_.symm; have f5_ := f3_.symm; clear f1_ f2_ f3_; subst f4_; subst f5_))
      obtain ⟨Ao72, co72, eo72⟩ := Kd.R_slice HO709.out
      (first | subst eo72 | (injection eo72 with f1_ f2_ f3_; have f4_ := f1_.symm; have f5_ := f3_.symm; clear f1_ f2_ f3_; subst f4_; subst f5_))
      obtain ⟨Ao73, co73, eo73⟩ := Kd.R_slice HO712.out
      (first | subst eo73 | (injection eo73 with f1_ f2_ f3_; have f4_ := f1_.symm; have f5_ := f3_.symm; clear f1_ f2_ f3_; subst f4_; subst f5_))
      refine hK.out _ _ ⟨(blk_cell BK691.out 0).trans rfl, (blk_cell BK691.out 1).trans rfl, (blk_cell BK691.out 2).trans rfl, (blk_cell BK660.out 0).trans rfl, (blk_cell BK660.out 1).trans rfl, (blk_cell BK660.out 2).trans rfl⟩ (fun hHeld => ?_)
      clear hK K
      refine norm_ (a' := ?_) ?_ ?_
      rotate_left
      ·show Act.put _ (some 43) _ = _
       simp only [Act.put, List.setIfInBounds_toArray, List.set_cons_zero, List.set_cons_succ, i64_w, i32_w]
       rfl
      refine one_ (i := 3) (N := some 44) #[true, true, true, true, false] rfl rfl (by kernel_rfl) (by decide) (fun K hK => ?_)
      refine goes_ Try.func23 (by kernel_rfl) rfl #[.agg #[.slice Ao30 t682.length co30, .slice Ao34 t685.length co34, .slice Ao35 t688.length co35], .agg #[.slice Ao71 t704.length co71, .slice Ao72 t707.length co72, .slice Ao73 t710.length co73]] (by rfl) rfl rfl args_ ?_
      with_reducible refine (laws_eqDesk.calls kj10 _ _ t682 _ _ t685 _ _ t688 _ _ t704 _ _ t707 _ _ t710 true _ ?side1 ?side2 ?side3 ?side4 ?side5 ?side6 ?side7 ?side8 ?side9 ?side10 ?side11 ?side12 A65.out).mono ?_
      (case side1 => repeat (first | exact (Kd.R_reads' HO_692000.out).2.2 | (with_reducible first | apply cA_ | apply cN_ | apply cD_)))
      (case side2 => exact (Kd.R_reads' HO_692000.out).2.1)
      (case side3 => repeat (first | exact (Kd.R_reads' HO_692001.out).2.2 | (with_reducible first | apply cA_ | apply cN_ | apply cD_)))
      (case side4 => exact (Kd.R_reads' HO_692001.out).2.1)
      (case side5 => repeat (first | exact (Kd.R_reads' HO_692002.out).2.2 | (with_reducible first | apply cA_ | apply cN_ | apply cD_)))
      (case side6 => exact (Kd.R_reads' HO_692002.out).2.1)
      (case side7 => repeat (first | exact (Kd.R_reads' HO706.out).2.2 | (with_reducible first | apply cA_ | apply cN_ | apply cD_)))
      (case side8 => exact (Kd.R_reads' HO706.out).2.1)
      (case side9 => repeat (first | exact (Kd.R_reads' HO709.out).2.2 | (with_reducible first | apply cA_ | apply cN_ | apply cD_)))
      (case side10 => exact (Kd.R_reads' HO709.out).2.1)
      (case side11 => repeat (first | exact (Kd.R_reads' HO712.out).2.2 | (with_reducible first | apply cA_ | apply cN_ | apply cD_)))
      (case side12 => exact (Kd.R_reads' HO712.out).2.1)
      rintro e w74 ⟨rfl, hb⟩
      refine ⟨_, rfl, ?_⟩
      have n0_ := Aside0.mk (Kd.R_below (ra_ HO_682000) hb)
      have n1_ := Aside0.mk (Kd.R_below (ra_ HO_682001) hb)
      have n2_ := Aside0.mk (Kd.R_below (ra_ HO_682002) hb)
      have n3_ := Aside0.mk (Kd.R_below (ra_ HO_692000) hb)
      have n4_ := Aside0.mk (Kd.R_below (ra_ HO_692001) hb)
      have n5_ := Aside0.mk (Kd.R_below (ra_ HO_692002) hb)
      have n6_ := Aside0.mk (Kd.R_below (ra_ HO_703000) hb)
      have n7_ := Aside0.mk (Kd.R_below (ra_ HO_703001) hb)
      have n8_ := Aside0.mk (Kd.R_below (ra_ HO_703002) hb)
      have n9_ := Aside0.mk (Kd.R_below (ra_ HO706) hb)
      have n10_ := Aside0.mk (Kd.R_below (ra_ HO709) hb)
      have n11_ := Aside0.mk (Kd.R_below (ra_ HO712) hb)
      have n12_ := Aside0.mk (lb_ BK660 hb)
      have n13_ := Aside0.mk (lb_ BK681 hb)
      have n14_ := Aside0.mk (lb_ BK691 hb)
      have n15_ := Aside0.mk (lb_ BK702 hb)
      have n16_ := Aside0.mk (below_step (bb4_ HB GE660 GE681 GE691 GE702) hb)
      clear HO_682000
      clear HO_682001
      clear HO_682002
      clear HO_692000
      clear HO_692001
      clear HO_692002
      clear HO_703000
      clear HO_703001
      clear HO_703002
      clear HO706
      clear HO709
      clear HO712
      clear BK660
      clear BK681
      clear BK691
      clear BK702
      clear HB
      have HO_682000 := n0_
      have HO_682001 := n1_
      have HO_682002 := n2_
      have HO_692000 := n3_
      have HO_692001 := n4_
      have HO_692002 := n5_
      have HO_703000 := n6_
      have HO_703001 := n7_
      have HO_703002 := n8_
      have HO706 := n9_
      have HO709 := n10_
      have HO712 := n11_
      have BK660 := n12_
      have BK681 := n13_
      have BK691 := n14_
      have BK702 := n15_
      have HB := n16_
      clear n0_ n1_ n2_ n3_ n4_ n5_ n6_ n7_ n8_ n9_ n10_ n11_ n12_ n13_ n14_ n15_ n16_
      (try clear hb)
      (try clear hb2)
      (try clear hk)
      (try clear hi)
      refine hK.out _ _ ⟨(blk_cell BK691.out 0).trans rfl, (blk_cell BK691.out 1).trans rfl, (blk_cell BK691.out 2).trans rfl, (blk_cell BK660.out 0).trans rfl, (blk_cell BK660.out 1).trans rfl, (blk_cell BK660.out 2).trans rfl⟩ (fun hHeld => ?_)
      clear hK K
      refine norm_ (a' := ?_) ?_ ?_
      rotate_left
      ·show Act.put _ (some 44) _ = _
       simp only [Act.put, List.setIfInBounds_toArray, List.set_cons_zero, List.set_cons_succ, i64_w, i32_w]
       rfl
      refine pure_ (i := 4) (N := some 45) (v := ?_) (a' := ?_) #[true, true, true, true, true] rfl rfl (by kernel_rfl) (fun _ _ _ h => h) (Or.inl ⟨by rfl, ?_⟩) ?_ ?_
      rotate_left
      ·intro w'
       go_simp
       with_reducible rfl
      rotate_left
      ·simp only [Act.put, List.setIfInBounds_toArray, List.set_cons_zero, List.set_cons_succ, i64_w, i32_w]
       rfl
      refine done_ (by kernel_rfl) ?_
      have hnb75 := NB691_660.out
      have hnc75 := NB660_691.out
      have hnb76 := NB691_681.out
      have hnc76 := NB681_691.out
      have hnb77 := NB691_702.out
      have hnc77 := NB702_691.out
      have hcz78_0 : w74.cell? ⟨gb691, 0, none⟩ = some (.slice Ao30 t682.length co30) := (blk_cell BK691.out 0).trans rfl
      have hcz78_1 : w74.cell? ⟨gb691, 1, none⟩ = some (.slice Ao34 t685.length co34) := (blk_cell BK691.out 1).trans rfl
      have hcz78_2 : w74.cell? ⟨gb691, 2, none⟩ = some (.slice Ao35 t688.length co35) := (blk_cell BK691.out 2).trans rfl
      have hfz78_0 := blk_frozen BK691.out 0
      have hfz78_1 := blk_frozen BK691.out 1
      have hfz78_2 := blk_frozen BK691.out 2
      go_upto_region 14 with (first | ((with_reducible refine gate_callee (f := 26) rfl ?_); refine goesL_ (some 48) rfl rfl Try.func26 (by kernel_rfl) rfl #[.agg #[.slice Ao30 t682.length co30, .slice Ao34 t685.length co34, .slice Ao35 t688.length co35], .int .i64 1] rfl args_ ?_; (with_reducible refine (laws_markDesk.calls kj10 (fun k_ => some k_ = (.slice Ao30 t682.length co30 : Value).ownBlock) (.slice Ao30 t682.length co30) t682 (fun k_ => some k_ = (.slice Ao34 t685.length co34 : Value).ownBlock) (.slice Ao34 t685.length co34) t685 (fun k_ => some k_ = (.slice Ao35 t688.length co35 : Value).ownBlock) (.slice Ao35 t688.length co35) t688 1 t714 t715 t716 t717 w _ ?side1 ?side2 ?side3 ?side4 ?side5 ?side6 A67.out).mono ?_); (case side1 => repeat (first | (with_reducible first | exact HB.out | apply bA_ | apply bN_ | apply bD_ | refine bS_ ?_ GE660.out | refine bS_ ?_ GE681.out | refine bS_ ?_ GE691.out | refine bS_ ?_ GE702.out) | exact HB.out)); (case side2 => exact Kd.R_tight rfl HO_692000.out); (case side3 => exact Kd.R_tight rfl HO_692001.out); (case side4 => exact fun k_ e_ => (HO_692001.out.1 k_ e_.symm).1.1.2.2.1); (case side5 => exact Kd.R_tight rfl HO_692002.out); (case side6 => exact fun k_ e_ => (HO_692002.out.1 k_ e_.symm).1.1.2.2.1); rintro e w79 ⟨rfl, hy0, hy1, hy2, hb, hkp⟩; refine ⟨_, rfl, ?_⟩; have n0_ := Aside0.mk (Kd.R_mono (ok' := fun k_ => some k_ ≠ (.slice Ao30 t682.length co30 : Value).ownBlock ∧ some k_ ≠ (.slice Ao38 t692.length co38 : Value).ownBlock ∧ some k_ ≠ (.slice Ao71 t704.length co71 : Value).ownBlock) (Kd.R_keptB ((Kd.R_apart' (Kd.R_apart' HO_682000.out (Kd.R_typed HO_692001.out) (by decide)) (Kd.R_typed HO_692002.out) (by decide))) hkp (fun k_ hk_ hs_ => Or.elim hs_ (fun e_ => (hk_.1.1.1.1) e_) (fun e_ => Or.elim e_ (fun e_ => (hk_.1.2) e_) (fun e_ => (hk_.2) e_)))) (fun k_ hk_ => ⟨hk_.1.1.1.1.1, hk_.1.1.1.1.2, hk_.1.1.1.2⟩)); have n1_ := Aside0.mk (Kd.R_mono (ok' := fun k_ => some k_ ≠ (.slice Ao26 t677.length co26 : Value).ownBlock ∧ some k_ ≠ (.slice Ao34 t685.length co34 : Value).ownBlock ∧ some k_ ≠ (.slice Ao35 t688.length co35 : Value).ownBlock ∧ some k_ ≠ (.slice Ao43 t695.length co43 : Value).ownBlock ∧ some k_ ≠ (.slice Ao44 t698.length co44 : Value).ownBlock ∧ some k_ ≠ (.slice Ao72 t707.length co72 : Value).ownBlock ∧ some k_ ≠ (.slice Ao73 t710.length co73 : Value).ownBlock) (Kd.R_keptB ((Kd.R_apart' HO_682001.out (Kd.R_typed HO_692000.out) (by decide))) hkp (fun k_ hk_ hs_ => Or.elim hs_ (fun e_ => (hk_.2) e_) (fun e_ => Or.elim e_ (fun e_ => (hk_.1.1.1.2.1) e_) (fun e_ => (hk_.1.1.1.2.2.1) e_)))) (fun k_ hk_ => ⟨hk_.1.1.1.1.1, hk_.1.1.1.1.2.1, hk_.1.1.1.1.2.2.1, hk_.1.1.1.1.2.2.2.1, hk_.1.1.1.1.2.2.2.2, hk_.1.1.1.2, hk_.1.1.2⟩)); have n2_ := Aside0.mk (Kd.R_mono (ok' := fun k_ => some k_ ≠ (.slice Ao25 t674.length co25 : Value).ownBlock ∧ some k_ ≠ (.slice Ao34 t685.length co34 : Value).ownBlock ∧ some k_ ≠ (.slice Ao35 t688.length co35 : Value).ownBlock ∧ some k_ ≠ (.slice Ao43 t695.length co43 : Value).ownBlock ∧ some k_ ≠ (.slice Ao44 t698.length co44 : Value).ownBlock ∧ some k_ ≠ (.slice Ao72 t707.length co72 : Value).ownBlock ∧ some k_ ≠ (.slice Ao73 t710.length co73 : Value).ownBlock) (Kd.R_keptB ((Kd.R_apart' HO_682002.out (Kd.R_typed HO_692000.out) (by decide))) hkp (fun k_ hk_ hs_ => Or.elim hs_ (fun e_ => (hk_.2) e_) (fun e_ => Or.elim e_ (fun e_ => (hk_.1.1.1.2.1) e_) (fun e_ => (hk_.1.1.1.2.2.1) e_)))) (fun k_ hk_ => ⟨hk_.1.1.1.1.1, hk_.1.1.1.1.2.1, hk_.1.1.1.1.2.2.1, hk_.1.1.1.1.2.2.2.1, hk_.1.1.1.1.2.2.2.2, hk_.1.1.1.2, hk_.1.1.2⟩)); have n3_ := Aside0.mk (Kd.R_reok rfl hy0 (fun k_ e_ => HO_692000.out.1 k_ e_)); have n4_ := Aside0.mk (Kd.R_reok rfl hy1 (fun k_ e_ => HO_692001.out.1 k_ e_)); have n5_ := Aside0.mk (Kd.R_reok rfl hy2 (fun k_ e_ => HO_692002.out.1 k_ e_)); have n6_ := Aside0.mk (Kd.R_mono (ok' := fun k_ => some k_ ≠ (.slice Ao22 t671.length co22 : Value).ownBlock ∧ some k_ ≠ (.slice Ao30 t682.length co30 : Value).ownBlock ∧ some k_ ≠ (.slice Ao71 t704.length co71 : Value).ownBlock) (Kd.R_keptB ((Kd.R_apart' (Kd.R_apart' HO_703000.out (Kd.R_typed HO_692001.out) (by decide)) (Kd.R_typed HO_692002.out) (by decide))) hkp (fun k_ hk_ hs_ => Or.elim hs_ (fun e_ => (hk_.1.1.1.2) e_) (fun e_ => Or.elim e_ (fun e_ => (hk_.1.2) e_) (fun e_ => (hk_.2) e_)))) (fun k_ hk_ => ⟨hk_.1.1.1.1.1, hk_.1.1.1.1.2, hk_.1.1.1.2⟩)); have n7_ := Aside0.mk (Kd.R_mono (ok' := fun k_ => some k_ ≠ (.slice Ao25 t674.length co25 : Value).ownBlock ∧ some k_ ≠ (.slice Ao26 t677.length co26 : Value).ownBlock ∧ some k_ ≠ (.slice Ao34 t685.length co34 : Value).ownBlock ∧ some k_ ≠ (.slice Ao35 t688.length co35 : Value).ownBlock ∧ some k_ ≠ (.slice Ao44 t698.length co44 : Value).ownBlock ∧ some k_ ≠ (.slice Ao72 t707.length co72 : Value).ownBlock ∧ some k_ ≠ (.slice Ao73 t710.length co73 : Value).ownBlock) (Kd.R_keptB ((Kd.R_apart' HO_703001.out (Kd.R_typed HO_692000.out) (by decide))) hkp (fun k_ hk_ hs_ => Or.elim hs_ (fun e_ => (hk_.2) e_) (fun e_ => Or.elim e_ (fun e_ => (hk_.1.1.1.2.2.1) e_) (fun e_ => (hk_.1.1.1.2.2.2.1) e_)))) (fun k_ hk_ => ⟨hk_.1.1.1.1.1, hk_.1.1.1.1.2.1, hk_.1.1.1.1.2.2.1, hk_.1.1.1.1.2.2.2.1, hk_.1.1.1.1.2.2.2.2, hk_.1.1.1.2, hk_.1.1.2⟩)); have n8_ := Aside0.mk (Kd.R_mono (ok' := fun k_ => some k_ ≠ (.slice Ao25 t674.length co25 : Value).ownBlock ∧ some k_ ≠ (.slice Ao26 t677.length co26 : Value).ownBlock ∧ some k_ ≠ (.slice Ao34 t685.length co34 : Value).ownBlock ∧ some k_ ≠ (.slice Ao35 t688.length co35 : Value).ownBlock ∧ some k_ ≠ (.slice Ao43 t695.length co43 : Value).ownBlock ∧ some k_ ≠ (.slice Ao72 t707.length co72 : Value).ownBlock ∧ some k_ ≠ (.slice Ao73 t710.length co73 : Value).ownBlock) (Kd.R_keptB ((Kd.R_apart' HO_703002.out (Kd.R_typed HO_692000.out) (by decide))) hkp (fun k_ hk_ hs_ => Or.elim hs_ (fun e_ => (hk_.2) e_) (fun e_ => Or.elim e_ (fun e_ => (hk_.1.1.1.2.2.1) e_) (fun e_ => (hk_.1.1.1.2.2.2.1) e_)))) (fun k_ hk_ => ⟨hk_.1.1.1.1.1, hk_.1.1.1.1.2.1, hk_.1.1.1.1.2.2.1, hk_.1.1.1.1.2.2.2.1, hk_.1.1.1.1.2.2.2.2, hk_.1.1.1.2, hk_.1.1.2⟩)); have n9_ := Aside0.mk (blk_kept (la_ BK660) hkp (fun hs_ => Or.elim hs_ (fun e_ => (fun e_ => (Kd.R_ne HO_692000.out BK660.out (by decide)) e_) e_) (fun e_ => Or.elim e_ (fun e_ => (fun e_ => (Kd.R_ne HO_692001.out BK660.out (by decide)) e_) e_) (fun e_ => (fun e_ => (Kd.R_ne HO_692002.out BK660.out (by decide)) e_) e_)))); have n10_ := Aside0.mk (blk_kept (la_ BK681) hkp (fun hs_ => Or.elim hs_ (fun e_ => (fun e_ => (Kd.R_ne HO_692000.out BK681.out (by decide)) e_) e_) (fun e_ => Or.elim e_ (fun e_ => (fun e_ => (Kd.R_ne HO_692001.out BK681.out (by decide)) e_) e_) (fun e_ => (fun e_ => (Kd.R_ne HO_692002.out BK681.out (by decide)) e_) e_)))); have n11_ := Aside0.mk (blk_kept (la_ BK691) hkp (fun hs_ => Or.elim hs_ (fun e_ => (fun e_ => (Kd.R_ne HO_692000.out BK691.out (by decide)) e_) e_) (fun e_ => Or.elim e_ (fun e_ => (fun e_ => (Kd.R_ne HO_692001.out BK691.out (by decide)) e_) e_) (fun e_ => (fun e_ => (Kd.R_ne HO_692002.out BK691.out (by decide)) e_) e_)))); have n12_ := Aside0.mk (blk_kept (la_ BK702) hkp (fun hs_ => Or.elim hs_ (fun e_ => (fun e_ => (Kd.R_ne HO_692000.out BK702.out (by decide)) e_) e_) (fun e_ => Or.elim e_ (fun e_ => (fun e_ => (Kd.R_ne HO_692001.out BK702.out (by decide)) e_) e_) (fun e_ => (fun e_ => (Kd.R_ne HO_692002.out BK702.out (by decide)) e_) e_)))); have n13_ := Aside0.mk (Kd.R_mono (ok' := fun k_ => some k_ ≠ (.slice Ao22 t671.length co22 : Value).ownBlock ∧ some k_ ≠ (.slice Ao30 t682.length co30 : Value).ownBlock ∧ some k_ ≠ (.slice Ao38 t692.length co38 : Value).ownBlock) (Kd.R_keptB ((Kd.R_apart' (Kd.R_apart' HO706.out (Kd.R_typed HO_692001.out) (by decide)) (Kd.R_typed HO_692002.out) (by decide))) hkp (fun k_ hk_ hs_ => Or.elim hs_ (fun e_ => (hk_.1.1.1.2) e_) (fun e_ => Or.elim e_ (fun e_ => (hk_.1.2) e_) (fun e_ => (hk_.2) e_)))) (fun k_ hk_ => ⟨hk_.1.1.1.1.1.2, hk_.1.1.1.1.2, hk_.1.1.1.2⟩)); have n14_ := Aside0.mk (Kd.R_mono (ok' := fun k_ => some k_ ≠ (.slice Ao25 t674.length co25 : Value).ownBlock ∧ some k_ ≠ (.slice Ao26 t677.length co26 : Value).ownBlock ∧ some k_ ≠ (.slice Ao34 t685.length co34 : Value).ownBlock ∧ some k_ ≠ (.slice Ao35 t688.length co35 : Value).ownBlock ∧ some k_ ≠ (.slice Ao43 t695.length co43 : Value).ownBlock ∧ some k_ ≠ (.slice Ao44 t698.length co44 : Value).ownBlock ∧ some k_ ≠ (.slice Ao73 t710.length co73 : Value).ownBlock) (Kd.R_keptB ((Kd.R_apart' HO709.out (Kd.R_typed HO_692000.out) (by decide))) hkp (fun k_ hk_ hs_ => Or.elim hs_ (fun e_ => (hk_.2) e_) (fun e_ => Or.elim e_ (fun e_ => (hk_.1.1.1.1.2) e_) (fun e_ => (hk_.1.1.1.2) e_)))) (fun k_ hk_ => ⟨hk_.1.1.1.1.1.1.1.2, hk_.1.1.1.1.1.1.2, hk_.1.1.1.1.1.2, hk_.1.1.1.1.2, hk_.1.1.1.2, hk_.1.1.2, hk_.1.1.1.1.1.1.1.1⟩)); have n15_ := Aside0.mk (Kd.R_mono (ok' := fun k_ => some k_ ≠ (.slice Ao25 t674.length co25 : Value).ownBlock ∧ some k_ ≠ (.slice Ao26 t677.length co26 : Value).ownBlock ∧ some k_ ≠ (.slice Ao34 t685.length co34 : Value).ownBlock ∧ some k_ ≠ (.slice Ao35 t688.length co35 : Value).ownBlock ∧ some k_ ≠ (.slice Ao43 t695.length co43 : Value).ownBlock ∧ some k_ ≠ (.slice Ao44 t698.length co44 : Value).ownBlock ∧ some k_ ≠ (.slice Ao72 t707.length co72 : Value).ownBlock) (Kd.R_keptB ((Kd.R_apart' HO712.out (Kd.R_typed HO_692000.out) (by decide))) hkp (fun k_ hk_ hs_ => Or.elim hs_ (fun e_ => (hk_.2) e_) (fun e_ => Or.elim e_ (fun e_ => (hk_.1.1.1.1.2) e_) (fun e_ => (hk_.1.1.1.2) e_)))) (fun k_ hk_ => ⟨hk_.1.1.1.1.1.1.1.2, hk_.1.1.1.1.1.1.2, hk_.1.1.1.1.1.2, hk_.1.1.1.1.2, hk_.1.1.1.2, hk_.1.1.2, hk_.1.1.1.1.1.1.1.1⟩)); have n16_ := Aside0.mk (hb); clear HO_682000; clear HO_682001; clear HO_682002; clear HO_692000; clear HO_692001; clear HO_692002; clear HO_703000; clear HO_703001; clear HO_703002; clear BK660; clear BK681; clear BK691; clear BK702; clear HO706; clear HO709; clear HO712; clear HB; have HO_682000 := n0_; have HO_682001 := n1_; have HO_682002 := n2_; have HO_692000 := n3_; have HO_692001 := n4_; have HO_692002 := n5_; have HO_703000 := n6_; have HO_703001 := n7_; have HO_703002 := n8_; have BK660 := n9_; have BK681 := n10_; have BK691 := n11_; have BK702 := n12_; have HO706 := n13_; have HO709 := n14_; have HO712 := n15_; have HB := n16_; clear n0_ n1_ n2_ n3_ n4_ n5_ n6_ n7_ n8_ n9_ n10_ n11_ n12_ n13_ n14_ n15_ n16_; (try clear hb); (try clear hkp); (try clear hy0); (try clear hy1); (try clear hy2)))
      (try simp only [Act.put, List.setIfInBounds_toArray, List.set_cons_zero, List.set_cons_succ])
      go_cut [61] (fun v61 wc => ∃ (kq : Nat) (x61_67 : Bool), v61 = .bool x61_67 ∧ Aside0 (laws_FnExactRedoEdit.j1 kq t680 x61_67 l0_0 l0_1 l0_2 t671 t674 t677 t692 t695 t698 = some r) ∧ Aside0 (kq ≤ kj10) ∧ Aside0 (Kd.R Kd.string 9 wc w.heap.size (fun k_ => some k_ ≠ ((.slice Ao30 t682.length co30) : Value).ownBlock ∧ some k_ ≠ ((.slice Ao38 t692.length co38) : Value).ownBlock) (.slice Ao22 t671.length co22) t671) ∧ Aside0 (Kd.R k25 25 wc w.heap.size (fun k_ => some k_ ≠ ((.slice Ao26 t677.length co26) : Value).ownBlock ∧ some k_ ≠ ((.slice Ao34 t685.length co34) : Value).ownBlock ∧ some k_ ≠ ((.slice Ao35 t688.length co35) : Value).ownBlock ∧ some k_ ≠ ((.slice Ao43 t695.length co43) : Value).ownBlock ∧ some k_ ≠ ((.slice Ao44 t698.length co44) : Value).ownBlock) (.slice Ao25 t674.length co25) t674) ∧ Aside0 (Kd.R k25 25 wc w.heap.size (fun k_ => some k_ ≠ ((.slice Ao25 t674.length co25) : Value).ownBlock ∧ some k_ ≠ ((.slice Ao34 t685.length co34) : Value).ownBlock ∧ some k_ ≠ ((.slice Ao35 t688.length co35) : Value).ownBlock ∧ some k_ ≠ ((.slice Ao43 t695.length co43) : Value).ownBlock ∧ some k_ ≠ ((.slice Ao44 t698.length co44) : Value).ownBlock) (.slice Ao26 t677.length co26) t677) ∧ Aside0 (Kd.R Kd.string 9 wc w.heap.size (fun k_ => some k_ ≠ ((.slice Ao22 t671.length co22) : Value).ownBlock ∧ some k_ ≠ ((.slice Ao38 t692.length co38) : Value).ownBlock) (.slice Ao30 t682.length co30) t715) ∧ Aside0 (Kd.R k25 25 wc w.heap.size (fun k_ => some k_ ≠ ((.slice Ao25 t674.length co25) : Value).ownBlock ∧ some k_ ≠ ((.slice Ao26 t677.length co26) : Value).ownBlock ∧ some k_ ≠ ((.slice Ao35 t688.length co35) : Value).ownBlock ∧ some k_ ≠ ((.slice Ao43 t695.length co43) : Value).ownBlock ∧ some k_ ≠ ((.slice Ao44 t698.length co44) : Value).ownBlock) (.slice Ao34 t685.length co34) t716) ∧ Aside0 (Kd.R k25 25 wc w.heap.size (fun k_ => some k_ ≠ ((.slice Ao25 t674.length co25) : Value).ownBlock ∧ some k_ ≠ ((.slice Ao26 t677.length co26) : Value).ownBlock ∧ some k_ ≠ ((.slice Ao34 t685.length co34) : Value).ownBlock ∧ some k_ ≠ ((.slice Ao43 t695.length co43) : Value).ownBlock ∧ some k_ ≠ ((.slice Ao44 t698.length co44) : Value).ownBlock) (.slice Ao35 t688.length co35) t717) ∧ Aside0 (Kd.R Kd.string 9 wc w.heap.size (fun k_ => some k_ ≠ ((.slice Ao22 t671.length co22) : Value).ownBlock ∧ some k_ ≠ ((.slice Ao30 t682.length co30) : Value).ownBlock) (.slice Ao38 t692.length co38) t692) ∧ Aside0 (Kd.R k25 25 wc w.heap.size (fun k_ => some k_ ≠ ((.slice Ao25 t674.length co25) : Value).ownBlock ∧ some k_ ≠ ((.slice Ao26 t677.length co26) : Value).ownBlock ∧ some k_ ≠ ((.slice Ao34 t685.length co34) : Value).ownBlock ∧ some k_ ≠ ((.slice Ao35 t688.length co35) : Value).ownBlock ∧ some k_ ≠ ((.slice Ao44 t698.length co44) : Value).ownBlock) (.slice Ao43 t695.length co43) t695) ∧ Aside0 (Kd.R k25 25 wc w.heap.size (fun k_ => some k_ ≠ ((.slice Ao25 t674.length co25) : Value).ownBlock ∧ some k_ ≠ ((.slice Ao26 t677.length co26) : Value).ownBlock ∧ some k_ ≠ ((.slice Ao34 t685.length co34) : Value).ownBlock ∧ some k_ ≠ ((.slice Ao35 t688.length co35) : Value).ownBlock ∧ some k_ ≠ ((.slice Ao43 t695.length co43) : Value).ownBlock) (.slice Ao44 t698.length co44) t698) ∧ Aside0 (wc.heap[gb660]? = some (.cells #[(.slice A0_0 l0_0.length c0_0), (.slice A0_1 l0_1.length c0_1), (.slice A0_2 l0_2.length c0_2)] 45 (0, 0))) ∧ Aside0 (wc.heap[gb681]? = some (.cells #[(.slice Ao22 t671.length co22), (.slice Ao25 t674.length co25), (.slice Ao26 t677.length co26)] 35 (0, 0))) ∧ Aside0 (wc.heap[gb691]? = some (.cells #[(.slice Ao30 t682.length co30), (.slice Ao34 t685.length co34), (.slice Ao35 t688.length co35)] 35 (0, 0))) ∧ Aside0 (wc.heap[gb702]? = some (.cells #[(.slice Ao38 t692.length co38), (.slice Ao43 t695.length co43), (.slice Ao44 t698.length co44)] 35 (0, 0))) ∧ Aside0 (Below w.heap.size w wc))
      case first =>
       have H := HC68.out
       clear HC68
       by_cases c80 : t714 < 0
       ·rw [if_pos c80] at H
        have c80b0 : decide (t714 < 0) = true := decide_eq_true c80
        clear c80
        (first | rw [c80b0] | (simp only [i64_w, i32_w]; rw [c80b0]) | skip)
        have H' := Aside0.mk H
        clear H
        go_wp2
        go_meet
        case rel => exact ⟨_, (true), (by first | rfl | (simp; done) | (simp [*]; done)), H', ⟨by have := HJ10.out; first | omega | exact Nat.le_refl _⟩, ⟨by (with_reducible repeat (first | apply rA_ | apply rN_ | apply rD_)); exact Kd.R_mono HO_682000.out (fun _ hk => ⟨hk.1, hk.2.1⟩)⟩, ⟨by (with_reducible repeat (first | apply rA_ | apply rN_ | apply rD_)); exact Kd.R_mono HO_682001.out (fun _ hk => ⟨hk.1, ⟨hk.2.1, ⟨hk.2.2.1, ⟨hk.2.2.2.1, hk.2.2.2.2.1⟩⟩⟩⟩)⟩, ⟨by (with_reducible repeat (first | apply rA_ | apply rN_ | apply rD_)); exact Kd.R_mono HO_682002.out (fun _ hk => ⟨hk.1, ⟨hk.2.1, ⟨hk.2.2.1, ⟨hk.2.2.2.1, hk.2.2.2.2.1⟩⟩⟩⟩)⟩, ⟨by (with_reducible repeat (first | apply rA_ | apply rN_ | apply rD_)); exact Kd.R_mono HO_692000.out (fun _ hk => ⟨hk.1.1, hk.1.2⟩)⟩, ⟨by (with_reducible repeat (first | apply rA_ | apply rN_ | apply rD_)); exact Kd.R_mono HO_692001.out (fun _ hk => ⟨hk.1.1.1, ⟨hk.1.1.2.1, ⟨hk.1.1.2.2.1, ⟨hk.1.1.2.2.2.1, hk.1.1.2.2.2.2⟩⟩⟩⟩)⟩, ⟨by (with_reducible repeat (first | apply rA_ | apply rN_ | apply rD_)); exact Kd.R_mono HO_692002.out (fun _ hk => ⟨hk.1.1.1, ⟨hk.1.1.2.1, ⟨hk.1.1.2.2.1, ⟨hk.1.1.2.2.2.1, hk.1.1.2.2.2.2⟩⟩⟩⟩)⟩, ⟨by (with_reducible repeat (first | apply rA_ | apply rN_ | apply rD_)); exact Kd.R_mono HO_703000.out (fun _ hk => ⟨hk.1, hk.2.1⟩)⟩, ⟨by (with_reducible repeat (first | apply rA_ | apply rN_ | apply rD_)); exact Kd.R_mono HO_703001.out (fun _ hk => ⟨hk.1, ⟨hk.2.1, ⟨hk.2.2.1, ⟨hk.2.2.2.1, hk.2.2.2.2.1⟩⟩⟩⟩)⟩, ⟨by (with_reducible repeat (first | apply rA_ | apply rN_ | apply rD_)); exact Kd.R_mono HO_703002.out (fun _ hk => ⟨hk.1, ⟨hk.2.1, ⟨hk.2.2.1, ⟨hk.2.2.2.1, hk.2.2.2.2.1⟩⟩⟩⟩)⟩, ⟨by (with_reducible repeat (first | apply lN_ | apply lD_ | apply lA_)); exact BK660.out⟩, ⟨by (with_reducible repeat (first | apply lN_ | apply lD_ | apply lA_)); exact BK681.out⟩, ⟨by (with_reducible repeat (first | apply lN_ | apply lD_ | apply lA_)); exact BK691.out⟩, ⟨by (with_reducible repeat (first | apply lN_ | apply lD_ | apply lA_)); exact BK702.out⟩, ⟨bb4_ HB GE660 GE681 GE691 GE702⟩⟩
       ·rw [if_neg c80] at H
        have c80b0 : decide (t714 < 0) = false := decide_eq_false c80
        clear c80
        (first | rw [c80b0] | (simp only [i64_w, i32_w]; rw [c80b0]) | skip)
        replace H := Option.bind_eq_some_iff.mp H
        obtain ⟨t718, A810, H⟩ := H
        try dsimp only at H
        have A81 := Aside0.mk A810
        clear A810
        by_cases c82 : t718 = true
        ·subst c82
         have H1 : (laws_FnExactRedoEdit.j1 kj10 t680 (t701 != t680) l0_0 l0_1 l0_2 t671 t674 t677 t692 t695 t698) = some r := by rw [if_pos rfl] at H; exact H
         clear H
         have H := H1
         clear H1
         have H' := Aside0.mk H
         clear H
         have hnb83 := NB702_660.out
         have hnc83 := NB660_702.out
         have hnb84 := NB702_681.out
         have hnc84 := NB681_702.out
         have hnb85 := NB702_691.out
         have hnc85 := NB691_702.out
         have hcz86_0 : w79.cell? ⟨gb702, 0, none⟩ = some (.slice Ao38 t692.length co38) := (blk_cell BK702.out 0).trans rfl
         have hcz86_1 : w79.cell? ⟨gb702, 1, none⟩ = some (.slice Ao43 t695.length co43) := (blk_cell BK702.out 1).trans rfl
         have hcz86_2 : w79.cell? ⟨gb702, 2, none⟩ = some (.slice Ao44 t698.length co44) := (blk_cell BK702.out 2).trans rfl
         have hfz86_0 := blk_frozen BK702.out 0
         have hfz86_1 := blk_frozen BK702.out 1
         have hfz86_2 := blk_frozen BK702.out 2
         have hnb87 := NB681_660.out
         have hnc87 := NB660_681.out
         have hnb88 := NB681_691.out
         have hnc88 := NB691_681.out
         have hcz89_0 : w79.cell? ⟨gb681, 0, none⟩ = some (.slice Ao22 t671.length co22) := (blk_cell BK681.out 0).trans rfl
         have hcz89_1 : w79.cell? ⟨gb681, 1, none⟩ = some (.slice Ao25 t674.length co25) := (blk_cell BK681.out 1).trans rfl
         have hcz89_2 : w79.cell? ⟨gb681, 2, none⟩ = some (.slice Ao26 t677.length co26) := (blk_cell BK681.out 2).trans rfl
         have hfz89_0 := blk_frozen BK681.out 0
         have hfz89_1 := blk_frozen BK681.out 1
         have hfz89_2 := blk_frozen BK681.out 2
         go_wp2_with (first | (go_at_call 23; (with_reducible refine (laws_eqDesk.calls kj10 _ _ t692 _ _ t695 _ _ t698 _ _ t671 _ _ t674 _ _ t677 true _ ?side1 ?side2 ?side3 ?side4 ?side5 ?side6 ?side7 ?side8 ?side9 ?side10 ?side11 ?side12 A81.out).mono ?_); (case side1 => repeat (first | exact (Kd.R_reads' HO_703000.out).2.2 | (with_reducible first | apply cA_ | apply cN_ | apply cD_))); (case side2 => exact (Kd.R_reads' HO_703000.out).2.1); (case side3 => repeat (first | exact (Kd.R_reads' HO_703001.out).2.2 | (with_reducible first | apply cA_ | apply cN_ | apply cD_))); (case side4 => exact (Kd.R_reads' HO_703001.out).2.1); (case side5 => repeat (first | exact (Kd.R_reads' HO_703002.out).2.2 | (with_reducible first | apply cA_ | apply cN_ | apply cD_))); (case side6 => exact (Kd.R_reads' HO_703002.out).2.1); (case side7 => repeat (first | exact (Kd.R_reads' HO_682000.out).2.2 | (with_reducible first | apply cA_ | apply cN_ | apply cD_))); (case side8 => exact (Kd.R_reads' HO_682000.out).2.1); (case side9 => repeat (first | exact (Kd.R_reads' HO_682001.out).2.2 | (with_reducible first | apply cA_ | apply cN_ | apply cD_))); (case side10 => exact (Kd.R_reads' HO_682001.out).2.1); (case side11 => repeat (first | exact (Kd.R_reads' HO_682002.out).2.2 | (with_reducible first | apply cA_ | apply cN_ | apply cD_))); (case side12 => exact (Kd.R_reads' HO_682002.out).2.1); rintro e w90 ⟨rfl, hb⟩; have n0_ := Aside0.mk (Kd.R_below (ra_ HO_682000) hb); have n1_ := Aside0.mk (Kd.R_below (ra_ HO_682001) hb); have n2_ := Aside0.mk (Kd.R_below (ra_ HO_682002) hb); have n3_ := Aside0.mk (Kd.R_below (ra_ HO_692000) hb); have n4_ := Aside0.mk (Kd.R_below (ra_ HO_692001) hb); have n5_ := Aside0.mk (Kd.R_below (ra_ HO_692002) hb); have n6_ := Aside0.mk (Kd.R_below (ra_ HO_703000) hb); have n7_ := Aside0.mk (Kd.R_below (ra_ HO_703001) hb); have n8_ := Aside0.mk (Kd.R_below (ra_ HO_703002) hb); have n9_ := Aside0.mk (Kd.R_below (ra_ HO706) hb); have n10_ := Aside0.mk (Kd.R_below (ra_ HO709) hb); have n11_ := Aside0.mk (Kd.R_below (ra_ HO712) hb); have n12_ := Aside0.mk (lb_ BK660 hb); have n13_ := Aside0.mk (lb_ BK681 hb); have n14_ := Aside0.mk (lb_ BK691 hb); have n15_ := Aside0.mk (lb_ BK702 hb); have n16_ := Aside0.mk (below_step (bb4_ HB GE660 GE681 GE691 GE702) hb); clear HO_682000; clear HO_682001; clear HO_682002; clear HO_692000; clear HO_692001; clear HO_692002; clear HO_703000; clear HO_703001; clear HO_703002; clear HO706; clear HO709; clear HO712; clear BK660; clear BK681; clear BK691; clear BK702; clear HB; have HO_682000 := n0_; have HO_682001 := n1_; have HO_682002 := n2_; have HO_692000 := n3_; have HO_692001 := n4_; have HO_692002 := n5_; have HO_703000 := n6_; have HO_703001 := n7_; have HO_703002 := n8_; have HO706 := n9_; have HO709 := n10_; have HO712 := n11_; have BK660 := n12_; have BK681 := n13_; have BK691 := n14_; have BK702 := n15_; have HB := n16_; clear n0_ n1_ n2_ n3_ n4_ n5_ n6_ n7_ n8_ n9_ n10_ n11_ n12_ n13_ n14_ n15_ n16_; (try clear hb); (try clear hb2); (try clear hk); (try clear hi)))
         go_meet
         case rel => exact ⟨_, ((t701 != t680)), (by first | rfl | (simp; done) | (simp [*]; done)), H', ⟨by have := HJ10.out; first | omega | exact Nat.le_refl _⟩, ⟨by (with_reducible repeat (first | apply rA_ | apply rN_ | apply rD_)); exact Kd.R_mono HO_682000.out (fun _ hk => ⟨hk.1, hk.2.1⟩)⟩, ⟨by (with_reducible repeat (first | apply rA_ | apply rN_ | apply rD_)); exact Kd.R_mono HO_682001.out (fun _ hk => ⟨hk.1, ⟨hk.2.1, ⟨hk.2.2.1, ⟨hk.2.2.2.1, hk.2.2.2.2.1⟩⟩⟩⟩)⟩, ⟨by (with_reducible repeat (first | apply rA_ | apply rN_ | apply rD_)); exact Kd.R_mono HO_682002.out (fun _ hk => ⟨hk.1, ⟨hk.2.1, ⟨hk.2.2.1, ⟨hk.2.2.2.1, hk.2.2.2.2.1⟩⟩⟩⟩)⟩, ⟨by (with_reducible repeat (first | apply rA_ | apply rN_ | apply rD_)); exact Kd.R_mono HO_692000.out (fun _ hk => ⟨hk.1.1, hk.1.2⟩)⟩, ⟨by (with_reducible repeat (first | apply rA_ | apply rN_ | apply rD_)); exact Kd.R_mono HO_692001.out (fun _ hk => ⟨hk.1.1.1, ⟨hk.1.1.2.1, ⟨hk.1.1.2.2.1, ⟨hk.1.1.2.2.2.1, hk.1.1.2.2.2.2⟩⟩⟩⟩)⟩, ⟨by (with_reducible repeat (first | apply rA_ | apply rN_ | apply rD_)); exact Kd.R_mono HO_692002.out (fun _ hk => ⟨hk.1.1.1, ⟨hk.1.1.2.1, ⟨hk.1.1.2.2.1, ⟨hk.1.1.2.2.2.1, hk.1.1.2.2.2.2⟩⟩⟩⟩)⟩, ⟨by (with_reducible repeat (first | apply rA_ | apply rN_ | apply rD_)); exact Kd.R_mono HO_703000.out (fun _ hk => ⟨hk.1, hk.2.1⟩)⟩, ⟨by (with_reducible repeat (first | apply rA_ | apply rN_ | apply rD_)); exact Kd.R_mono HO_703001.out (fun _ hk => ⟨hk.1, ⟨hk.2.1, ⟨hk.2.2.1, ⟨hk.2.2.2.1, hk.2.2.2.2.1⟩⟩⟩⟩)⟩, ⟨by (with_reducible repeat (first | apply rA_ | apply rN_ | apply rD_)); exact Kd.R_mono HO_703002.out (fun _ hk => ⟨hk.1, ⟨hk.2.1, ⟨hk.2.2.1, ⟨hk.2.2.2.1, hk.2.2.2.2.1⟩⟩⟩⟩)⟩, ⟨by (with_reducible repeat (first | apply lN_ | apply lD_ | apply lA_)); exact BK660.out⟩, ⟨by (with_reducible repeat (first | apply lN_ | apply lD_ | apply lA_)); exact BK681.out⟩, ⟨by (with_reducible repeat (first | apply lN_ | apply lD_ | apply lA_)); exact BK691.out⟩, ⟨by (with_reducible repeat (first | apply lN_ | apply lD_ | apply lA_)); exact BK702.out⟩, ⟨bb4_ HB GE660 GE681 GE691 GE702⟩⟩
        ·replace c82 := Bool.eq_false_iff.mpr c82
         subst c82
         have H1 : (laws_FnExactRedoEdit.j1 kj10 t680 true l0_0 l0_1 l0_2 t671 t674 t677 t692 t695 t698) = some r := by rw [if_neg (show ¬ (false = true) by decide)] at H; exact H
         clear H
         have H := H1
         clear H1
         have H' := Aside0.mk H
         clear H
         have hnb91 := NB702_660.out
         have hnc91 := NB660_702.out
         have hnb92 := NB702_681.out
         have hnc92 := NB681_702.out
         have hnb93 := NB702_691.out
         have hnc93 := NB691_702.out
         have hcz94_0 : w79.cell? ⟨gb702, 0, none⟩ = some (.slice Ao38 t692.length co38) := (blk_cell BK702.out 0).trans rfl
         have hcz94_1 : w79.cell? ⟨gb702, 1, none⟩ = some (.slice Ao43 t695.length co43) := (blk_cell BK702.out 1).trans rfl
         have hcz94_2 : w79.cell? ⟨gb702, 2, none⟩ = some (.slice Ao44 t698.length co44) := (blk_cell BK702.out 2).trans rfl
         have hfz94_0 := blk_frozen BK702.out 0
         have hfz94_1 := blk_frozen BK702.out 1
         have hfz94_2 := blk_frozen BK702.out 2
         have hnb95 := NB681_660.out
         have hnc95 := NB660_681.out
         have hnb96 := NB681_691.out
         have hnc96 := NB691_681.out
         have hcz97_0 : w79.cell? ⟨gb681, 0, none⟩ = some (.slice Ao22 t671.length co22) := (blk_cell BK681.out 0).trans rfl
         have hcz97_1 : w79.cell? ⟨gb681, 1, none⟩ = some (.slice Ao25 t674.length co25) := (blk_cell BK681.out 1).trans rfl
         have hcz97_2 : w79.cell? ⟨gb681, 2, none⟩ = some (.slice Ao26 t677.length co26) := (blk_cell BK681.out 2).trans rfl
         have hfz97_0 := blk_frozen BK681.out 0
         have hfz97_1 := blk_frozen BK681.out 1
         have hfz97_2 := blk_frozen BK681.out 2
         go_wp2_with (first | (go_at_call 23; (with_reducible refine (laws_eqDesk.calls kj10 _ _ t692 _ _ t695 _ _ t698 _ _ t671 _ _ t674 _ _ t677 false _ ?side1 ?side2 ?side3 ?side4 ?side5 ?side6 ?side7 ?side8 ?side9 ?side10 ?side11 ?side12 A81.out).mono ?_); (case side1 => repeat (first | exact (Kd.R_reads' HO_703000.out).2.2 | (with_reducible first | apply cA_ | apply cN_ | apply cD_))); (case side2 => exact (Kd.R_reads' HO_703000.out).2.1); (case side3 => repeat (first | exact (Kd.R_reads' HO_703001.out).2.2 | (with_reducible first | apply cA_ | apply cN_ | apply cD_))); (case side4 => exact (Kd.R_reads' HO_703001.out).2.1); (case side5 => repeat (first | exact (Kd.R_reads' HO_703002.out).2.2 | (with_reducible first | apply cA_ | apply cN_ | apply cD_))); (case side6 => exact (Kd.R_reads' HO_703002.out).2.1); (case side7 => repeat (first | exact (Kd.R_reads' HO_682000.out).2.2 | (with_reducible first | apply cA_ | apply cN_ | apply cD_))); (case side8 => exact (Kd.R_reads' HO_682000.out).2.1); (case side9 => repeat (first | exact (Kd.R_reads' HO_682001.out).2.2 | (with_reducible first | apply cA_ | apply cN_ | apply cD_))); (case side10 => exact (Kd.R_reads' HO_682001.out).2.1); (case side11 => repeat (first | exact (Kd.R_reads' HO_682002.out).2.2 | (with_reducible first | apply cA_ | apply cN_ | apply cD_))); (case side12 => exact (Kd.R_reads' HO_682002.out).2.1); rintro e w98 ⟨rfl, hb⟩; have n0_ := Aside0.mk (Kd.R_below (ra_ HO_682000) hb); have n1_ := Aside0.mk (Kd.R_below (ra_ HO_682001) hb); have n2_ := Aside0.mk (Kd.R_below (ra_ HO_682002) hb); have n3_ := Aside0.mk (Kd.R_below (ra_ HO_692000) hb); have n4_ := Aside0.mk (Kd.R_below (ra_ HO_692001) hb); have n5_ := Aside0.mk (Kd.R_below (ra_ HO_692002) hb); have n6_ := Aside0.mk (Kd.R_below (ra_ HO_703000) hb); have n7_ := Aside0.mk (Kd.R_below (ra_ HO_703001) hb); have n8_ := Aside0.mk (Kd.R_below (ra_ HO_703002) hb); have n9_ := Aside0.mk (Kd.R_below (ra_ HO706) hb); have n10_ := Aside0.mk (Kd.R_below (ra_ HO709) hb); have n11_ := Aside0.mk (Kd.R_below (ra_ HO712) hb); have n12_ := Aside0.mk (lb_ BK660 hb); have n13_ := Aside0.mk (lb_ BK681 hb); have n14_ := Aside0.mk (lb_ BK691 hb); have n15_ := Aside0.mk (lb_ BK702 hb); have n16_ := Aside0.mk (below_step (bb4_ HB GE660 GE681 GE691 GE702) hb); clear HO_682000; clear HO_682001; clear HO_682002; clear HO_692000; clear HO_692001; clear HO_692002; clear HO_703000; clear HO_703001; clear HO_703002; clear HO706; clear HO709; clear HO712; clear BK660; clear BK681; clear BK691; clear BK702; clear HB; have HO_682000 := n0_; have HO_682001 := n1_; have HO_682002 := n2_; have HO_692000 := n3_; have HO_692001 := n4_; have HO_692002 := n5_; have HO_703000 := n6_; have HO_703001 := n7_; have HO_703002 := n8_; have HO706 := n9_; have HO709 := n10_; have HO712 := n11_; have BK660 := n12_; have BK681 := n13_; have BK691 := n14_; have BK702 := n15_; have HB := n16_; clear n0_ n1_ n2_ n3_ n4_ n5_ n6_ n7_ n8_ n9_ n10_ n11_ n12_ n13_ n14_ n15_ n16_; (try clear hb); (try clear hb2); (try clear hk); (try clear hi)))
         go_meet
         case rel => exact ⟨_, (true), (by first | rfl | (simp; done) | (simp [*]; done)), H', ⟨by have := HJ10.out; first | omega | exact Nat.le_refl _⟩, ⟨by (with_reducible repeat (first | apply rA_ | apply rN_ | apply rD_)); exact Kd.R_mono HO_682000.out (fun _ hk => ⟨hk.1, hk.2.1⟩)⟩, ⟨by (with_reducible repeat (first | apply rA_ | apply rN_ | apply rD_)); exact Kd.R_mono HO_682001.out (fun _ hk => ⟨hk.1, ⟨hk.2.1, ⟨hk.2.2.1, ⟨hk.2.2.2.1, hk.2.2.2.2.1⟩⟩⟩⟩)⟩, ⟨by (with_reducible repeat (first | apply rA_ | apply rN_ | apply rD_)); exact Kd.R_mono HO_682002.out (fun _ hk => ⟨hk.1, ⟨hk.2.1, ⟨hk.2.2.1, ⟨hk.2.2.2.1, hk.2.2.2.2.1⟩⟩⟩⟩)⟩, ⟨by (with_reducible repeat (first | apply rA_ | apply rN_ | apply rD_)); exact Kd.R_mono HO_692000.out (fun _ hk => ⟨hk.1.1, hk.1.2⟩)⟩, ⟨by (with_reducible repeat (first | apply rA_ | apply rN_ | apply rD_)); exact Kd.R_mono HO_692001.out (fun _ hk => ⟨hk.1.1.1, ⟨hk.1.1.2.1, ⟨hk.1.1.2.2.1, ⟨hk.1.1.2.2.2.1, hk.1.1.2.2.2.2⟩⟩⟩⟩)⟩, ⟨by (with_reducible repeat (first | apply rA_ | apply rN_ | apply rD_)); exact Kd.R_mono HO_692002.out (fun _ hk => ⟨hk.1.1.1, ⟨hk.1.1.2.1, ⟨hk.1.1.2.2.1, ⟨hk.1.1.2.2.2.1, hk.1.1.2.2.2.2⟩⟩⟩⟩)⟩, ⟨by (with_reducible repeat (first | apply rA_ | apply rN_ | apply rD_)); exact Kd.R_mono HO_703000.out (fun _ hk => ⟨hk.1, hk.2.1⟩)⟩, ⟨by (with_reducible repeat (first | apply rA_ | apply rN_ | apply rD_)); exact Kd.R_mono HO_703001.out (fun _ hk => ⟨hk.1, ⟨hk.2.1, ⟨hk.2.2.1, ⟨hk.2.2.2.1, hk.2.2.2.2.1⟩⟩⟩⟩)⟩, ⟨by (with_reducible repeat (first | apply rA_ | apply rN_ | apply rD_)); exact Kd.R_mono HO_703002.out (fun _ hk => ⟨hk.1, ⟨hk.2.1, ⟨hk.2.2.1, ⟨hk.2.2.2.1, hk.2.2.2.2.1⟩⟩⟩⟩)⟩, ⟨by (with_reducible repeat (first | apply lN_ | apply lD_ | apply lA_)); exact BK660.out⟩, ⟨by (with_reducible repeat (first | apply lN_ | apply lD_ | apply lA_)); exact BK681.out⟩, ⟨by (with_reducible repeat (first | apply lN_ | apply lD_ | apply lA_)); exact BK691.out⟩, ⟨by (with_reducible repeat (first | apply lN_ | apply lD_ | apply lA_)); exact BK702.out⟩, ⟨bb4_ HB GE660 GE681 GE691 GE702⟩⟩
      case rest =>
       clear HC68
       try clear c2
       try clear p2
       try clear c3
       try clear c3b0
       try clear c4
       try clear c5
       try clear c6
       try clear c7
       try clear c8
       try clear c9
       try clear c23
       try clear c26
       try clear c28
       try clear c30
       try clear c31
       try clear c32
       try clear c37
       try clear c38
       try clear c39
       try clear c40
       try clear c41
       try clear c46
       try clear c47
       try clear c48
       try clear c49
       try clear c51
       try clear c52
       try clear c55
       try clear c56
       try clear c57
       try clear c59
       try clear c60
       try clear c63
       try clear c66
       try clear c75
       try clear c76
       try clear c77
       try clear c80
       try clear c80b0
       try clear c82
       try clear c83
       try clear c84
       try clear c85
       try clear c87
       try clear c88
       try clear c91
       try clear c92
       try clear c93
       try clear c95
       try clear c96
       try clear hcz13_0
       try clear hcz13_1
       try clear hcz13_2
       try clear hcz15_0
       try clear hcz15_1
       try clear hcz15_2
       try clear hcz24_0
       try clear hcz24_1
       try clear hcz24_2
       try clear hcz27_0
       try clear hcz27_1
       try clear hcz27_2
       try clear hcz33_0
       try clear hcz33_1
       try clear hcz33_2
       try clear hcz42_0
       try clear hcz42_1
       try clear hcz42_2
       try clear hcz50_0
       try clear hcz50_1
       try clear hcz50_2
       try clear hcz53_0
       try clear hcz53_1
       try clear hcz53_2
       try clear hcz58_0
       try clear hcz58_1
       try clear hcz58_2
       try clear hcz5_0
       try clear hcz5_1
       try clear hcz5_2
       try clear hcz61_0
       try clear hcz61_1
       try clear hcz61_2
       try clear hcz78_0
       try clear hcz78_1
       try clear hcz78_2
       try clear hcz86_0
       try clear hcz86_1
       try clear hcz86_2
       try clear hcz89_0
       try clear hcz89_1
       try clear hcz89_2
       try clear hcz94_0
       try clear hcz94_1
       try clear hcz94_2
       try clear hcz97_0
       try clear hcz97_1
       try clear hcz97_2
       try clear hfz13_0
       try clear hfz13_1
       try clear hfz13_2
       try clear hfz15_0
       try clear hfz15_1
       try clear hfz15_2
       try clear hfz24_0
       try clear hfz24_1
       try clear hfz24_2
       try clear hfz27_0
       try clear hfz27_1
       try clear hfz27_2
       try clear hfz33_0
       try clear hfz33_1
       try clear hfz33_2
       try clear hfz42_0
       try clear hfz42_1
       try clear hfz42_2
       try clear hfz50_0
       try clear hfz50_1
       try clear hfz50_2
       try clear hfz53_0
       try clear hfz53_1
       try clear hfz53_2
       try clear hfz58_0
       try clear hfz58_1
       try clear hfz58_2
       try clear hfz5_0
       try clear hfz5_1
       try clear hfz5_2
       try clear hfz61_0
       try clear hfz61_1
       try clear hfz61_2
       try clear hfz78_0
       try clear hfz78_1
       try clear hfz78_2
       try clear hfz86_0
       try clear hfz86_1
       try clear hfz86_2
       try clear hfz89_0
       try clear hfz89_1
       try clear hfz89_2
       try clear hfz94_0
       try clear hfz94_1
       try clear hfz94_2
       try clear hfz97_0
       try clear hfz97_1
       try clear hfz97_2
       try clear p2
       obtain ⟨kq, x61_67, rfl, HA, HJ67, HO_682000, HO_682001, HO_682002, HO_692000, HO_692001, HO_692002, HO_703000, HO_703001, HO_703002, BK660, BK681, BK691, BK702, HB⟩ := hcut
       have hl692000_67 := (Kd.R_reads' HO_692000.out).1
       rw [hl692000_67] at HO_692000
       (try simp only [hl692000_67])
       (try simp only [hl692000_67] at BK660)
       (try simp only [hl692000_67] at BK681)
       (try simp only [hl692000_67] at BK691)
       (try simp only [hl692000_67] at BK702)
       (try simp only [hl692000_67] at HO_682000)
       (try simp only [hl692000_67] at HO_682001)
       (try simp only [hl692000_67] at HO_682002)
       (try simp only [hl692000_67] at HO_692001)
       (try simp only [hl692000_67] at HO_692002)
       (try simp only [hl692000_67] at HO_703000)
       (try simp only [hl692000_67] at HO_703001)
       (try simp only [hl692000_67] at HO_703002)
       have hl692001_67 := (Kd.R_reads' HO_692001.out).1
       rw [hl692001_67] at HO_692001
       (try simp only [hl692001_67])
       (try simp only [hl692001_67] at BK660)
       (try simp only [hl692001_67] at BK681)
       (try simp only [hl692001_67] at BK691)
       (try simp only [hl692001_67] at BK702)
       (try simp only [hl692001_67] at HO_682000)
       (try simp only [hl692001_67] at HO_682001)
       (try simp only [hl692001_67] at HO_682002)
       (try simp only [hl692001_67] at HO_692000)
       (try simp only [hl692001_67] at HO_692002)
       (try simp only [hl692001_67] at HO_703000)
       (try simp only [hl692001_67] at HO_703001)
       (try simp only [hl692001_67] at HO_703002)
       have hl692002_67 := (Kd.R_reads' HO_692002.out).1
       rw [hl692002_67] at HO_692002
       (try simp only [hl692002_67])
       (try simp only [hl692002_67] at BK660)
       (try simp only [hl692002_67] at BK681)
       (try simp only [hl692002_67] at BK691)
       (try simp only [hl692002_67] at BK702)
       (try simp only [hl692002_67] at HO_682000)
       (try simp only [hl692002_67] at HO_682001)
       (try simp only [hl692002_67] at HO_682002)
       (try simp only [hl692002_67] at HO_692000)
       (try simp only [hl692002_67] at HO_692001)
       (try simp only [hl692002_67] at HO_703000)
       (try simp only [hl692002_67] at HO_703001)
       (try simp only [hl692002_67] at HO_703002)
       cases kq with
       | zero => exact absurd HA.out (by simp [laws_FnExactRedoEdit.j1])
       | succ kj67 =>
        have H := HA.out
        clear HA
        simp only [laws_FnExactRedoEdit.j1] at H
        by_cases c99 : x61_67 = true
        ·subst c99
         have H1 : (none) = some r := by rw [if_pos rfl] at H; exact H
         clear H
         have H := H1
         clear H1
         exact absurd H (by simp)
        ·replace c99 := Bool.eq_false_iff.mpr c99
         subst c99
         have H1 : ((laws_markDesk.f kj67 t692 t695 t698 1).bind fun bt719 => ((laws_heldDesk.f kj67 bt719.2.1 bt719.2.2.1 bt719.2.2.2 1).bind fun t723 => (if t723 < 0 then (none) else (if t723 = bt719.1 then ((laws_toDesk.f kj67 l0_0 l0_1 l0_2).bind fun bt724 => ((impl_RedoEdit.f kj67 bt724.1 bt724.2.1 bt724.2.2).bind fun bt733 => ((laws_eqDesk.f kj67 bt733.1 bt733.2.1 bt733.2.2.1 t671 t674 t677).bind fun t744 => (if t744 = true then (laws_FnExactRedoEdit.j2 kj67 bt719.1 (bt733.2.2.2 != t680) bt719.2.1 bt719.2.2.1 bt719.2.2.2) else (laws_FnExactRedoEdit.j2 kj67 bt719.1 true bt719.2.1 bt719.2.2.1 bt719.2.2.2))))) else (none))))) = some r := by rw [if_neg (show ¬ (false = true) by decide)] at H; exact H
         clear H
         have H := H1
         clear H1
         replace H := Option.bind_eq_some_iff.mp H
         obtain ⟨⟨t719, t720, t721, t722⟩, A1000, H⟩ := H
         try dsimp only at H
         have A100 := Aside0.mk A1000
         clear A1000
         replace H := Option.bind_eq_some_iff.mp H
         obtain ⟨t723, A1010, H⟩ := H
         try dsimp only at H
         have A101 := Aside0.mk A1010
         clear A1010
         by_cases c102 : t723 < 0
         ·rw [if_pos c102] at H
          exact absurd H (by simp)
         ·rw [if_neg c102] at H
          have c102b0 : decide (t723 < 0) = false := decide_eq_false c102
          clear c102
          by_cases c103 : t723 = t719
          ·rw [if_pos c103] at H
           have c103b0 : (t723 == t719) = true := beq_iff_eq.mpr c103
           have c103b1 : (t723 != t719) = false := bne_eq_false_iff_eq.mpr c103
           clear c103
           replace H := Option.bind_eq_some_iff.mp H
           obtain ⟨⟨t724, t727, t730⟩, A1040, H⟩ := H
           try dsimp only at H
           have A104 := Aside0.mk A1040
           clear A1040
           replace H := Option.bind_eq_some_iff.mp H
           obtain ⟨⟨t733, t736, t739, t742⟩, A1050, H⟩ := H
           try dsimp only at H
           have A105 := Aside0.mk A1050
           clear A1050
           have HC106 := Aside0.mk H
           clear H
           have hnb107 := NB702_660.out
           have hnc107 := NB660_702.out
           have hnb108 := NB702_681.out
           have hnc108 := NB681_702.out
           have hnb109 := NB702_691.out
           have hnc109 := NB691_702.out
           have hcz110_0 : wc.cell? ⟨gb702, 0, none⟩ = some (.slice Ao38 t692.length co38) := (blk_cell BK702.out 0).trans rfl
           have hcz110_1 : wc.cell? ⟨gb702, 1, none⟩ = some (.slice Ao43 t695.length co43) := (blk_cell BK702.out 1).trans rfl
           have hcz110_2 : wc.cell? ⟨gb702, 2, none⟩ = some (.slice Ao44 t698.length co44) := (blk_cell BK702.out 2).trans rfl
           have hfz110_0 := blk_frozen BK702.out 0
           have hfz110_1 := blk_frozen BK702.out 1
           have hfz110_2 := blk_frozen BK702.out 2
           go_upto_region 25 with (first | ((with_reducible refine gate_callee (f := 26) rfl ?_); refine goesL_ (some 64) rfl rfl Try.func26 (by kernel_rfl) rfl #[.agg #[.slice Ao38 t692.length co38, .slice Ao43 t695.length co43, .slice Ao44 t698.length co44], .int .i64 1] rfl args_ ?_; (with_reducible refine (laws_markDesk.calls kj67 (fun k_ => some k_ = (.slice Ao38 t692.length co38 : Value).ownBlock) (.slice Ao38 t692.length co38) t692 (fun k_ => some k_ = (.slice Ao43 t695.length co43 : Value).ownBlock) (.slice Ao43 t695.length co43) t695 (fun k_ => some k_ = (.slice Ao44 t698.length co44 : Value).ownBlock) (.slice Ao44 t698.length co44) t698 1 t719 t720 t721 t722 w _ ?side1 ?side2 ?side3 ?side4 ?side5 ?side6 A100.out).mono ?_); (case side1 => repeat (first | (with_reducible first | exact HB.out | apply bA_ | apply bN_ | apply bD_ | refine bS_ ?_ GE660.out | refine bS_ ?_ GE681.out | refine bS_ ?_ GE691.out | refine bS_ ?_ GE702.out) | exact HB.out)); (case side2 => exact Kd.R_tight rfl HO_703000.out); (case side3 => exact Kd.R_tight rfl HO_703001.out); (case side4 => exact fun k_ e_ => (HO_703001.out.1 k_ e_.symm).2.2.2.2); (case side5 => exact Kd.R_tight rfl HO_703002.out); (case side6 => exact fun k_ e_ => (HO_703002.out.1 k_ e_.symm).2.2.2.2); rintro e w111 ⟨rfl, hy0, hy1, hy2, hb, hkp⟩; refine ⟨_, rfl, ?_⟩; have n0_ := Aside0.mk (Kd.R_mono (ok' := fun k_ => some k_ ≠ (.slice Ao30 t715.length co30 : Value).ownBlock ∧ some k_ ≠ (.slice Ao38 t692.length co38 : Value).ownBlock) (Kd.R_keptB ((Kd.R_apart' (Kd.R_apart' HO_682000.out (Kd.R_typed HO_703001.out) (by decide)) (Kd.R_typed HO_703002.out) (by decide))) hkp (fun k_ hk_ hs_ => Or.elim hs_ (fun e_ => (hk_.1.1.2) e_) (fun e_ => Or.elim e_ (fun e_ => (hk_.1.2) e_) (fun e_ => (hk_.2) e_)))) (fun k_ hk_ => ⟨hk_.1.1.1.1, hk_.1.1.1.2⟩)); have n1_ := Aside0.mk (Kd.R_mono (ok' := fun k_ => some k_ ≠ (.slice Ao26 t677.length co26 : Value).ownBlock ∧ some k_ ≠ (.slice Ao34 t716.length co34 : Value).ownBlock ∧ some k_ ≠ (.slice Ao35 t717.length co35 : Value).ownBlock ∧ some k_ ≠ (.slice Ao43 t695.length co43 : Value).ownBlock ∧ some k_ ≠ (.slice Ao44 t698.length co44 : Value).ownBlock) (Kd.R_keptB ((Kd.R_apart' HO_682001.out (Kd.R_typed HO_703000.out) (by decide))) hkp (fun k_ hk_ hs_ => Or.elim hs_ (fun e_ => (hk_.2) e_) (fun e_ => Or.elim e_ (fun e_ => (hk_.1.2.2.2.1) e_) (fun e_ => (hk_.1.2.2.2.2) e_)))) (fun k_ hk_ => ⟨hk_.1.1.1, hk_.1.1.2.1, hk_.1.1.2.2.1, hk_.1.1.2.2.2.1, hk_.1.1.2.2.2.2⟩)); have n2_ := Aside0.mk (Kd.R_mono (ok' := fun k_ => some k_ ≠ (.slice Ao25 t674.length co25 : Value).ownBlock ∧ some k_ ≠ (.slice Ao34 t716.length co34 : Value).ownBlock ∧ some k_ ≠ (.slice Ao35 t717.length co35 : Value).ownBlock ∧ some k_ ≠ (.slice Ao43 t695.length co43 : Value).ownBlock ∧ some k_ ≠ (.slice Ao44 t698.length co44 : Value).ownBlock) (Kd.R_keptB ((Kd.R_apart' HO_682002.out (Kd.R_typed HO_703000.out) (by decide))) hkp (fun k_ hk_ hs_ => Or.elim hs_ (fun e_ => (hk_.2) e_) (fun e_ => Or.elim e_ (fun e_ => (hk_.1.2.2.2.1) e_) (fun e_ => (hk_.1.2.2.2.2) e_)))) (fun k_ hk_ => ⟨hk_.1.1.1, hk_.1.1.2.1, hk_.1.1.2.2.1, hk_.1.1.2.2.2.1, hk_.1.1.2.2.2.2⟩)); have n3_ := Aside0.mk (Kd.R_mono (ok' := fun k_ => some k_ ≠ (.slice Ao22 t671.length co22 : Value).ownBlock ∧ some k_ ≠ (.slice Ao38 t692.length co38 : Value).ownBlock) (Kd.R_keptB ((Kd.R_apart' (Kd.R_apart' HO_692000.out (Kd.R_typed HO_703001.out) (by decide)) (Kd.R_typed HO_703002.out) (by decide))) hkp (fun k_ hk_ hs_ => Or.elim hs_ (fun e_ => (hk_.1.1.2) e_) (fun e_ => Or.elim e_ (fun e_ => (hk_.1.2) e_) (fun e_ => (hk_.2) e_)))) (fun k_ hk_ => ⟨hk_.1.1.1.1, hk_.1.1.1.2⟩)); have n4_ := Aside0.mk (Kd.R_mono (ok' := fun k_ => some k_ ≠ (.slice Ao25 t674.length co25 : Value).ownBlock ∧ some k_ ≠ (.slice Ao26 t677.length co26 : Value).ownBlock ∧ some k_ ≠ (.slice Ao35 t717.length co35 : Value).ownBlock ∧ some k_ ≠ (.slice Ao43 t695.length co43 : Value).ownBlock ∧ some k_ ≠ (.slice Ao44 t698.length co44 : Value).ownBlock) (Kd.R_keptB ((Kd.R_apart' HO_692001.out (Kd.R_typed HO_703000.out) (by decide))) hkp (fun k_ hk_ hs_ => Or.elim hs_ (fun e_ => (hk_.2) e_) (fun e_ => Or.elim e_ (fun e_ => (hk_.1.2.2.2.1) e_) (fun e_ => (hk_.1.2.2.2.2) e_)))) (fun k_ hk_ => ⟨hk_.1.1.1, hk_.1.1.2.1, hk_.1.1.2.2.1, hk_.1.1.2.2.2.1, hk_.1.1.2.2.2.2⟩)); have n5_ := Aside0.mk (Kd.R_mono (ok' := fun k_ => some k_ ≠ (.slice Ao25 t674.length co25 : Value).ownBlock ∧ some k_ ≠ (.slice Ao26 t677.length co26 : Value).ownBlock ∧ some k_ ≠ (.slice Ao34 t716.length co34 : Value).ownBlock ∧ some k_ ≠ (.slice Ao43 t695.length co43 : Value).ownBlock ∧ some k_ ≠ (.slice Ao44 t698.length co44 : Value).ownBlock) (Kd.R_keptB ((Kd.R_apart' HO_692002.out (Kd.R_typed HO_703000.out) (by decide))) hkp (fun k_ hk_ hs_ => Or.elim hs_ (fun e_ => (hk_.2) e_) (fun e_ => Or.elim e_ (fun e_ => (hk_.1.2.2.2.1) e_) (fun e_ => (hk_.1.2.2.2.2) e_)))) (fun k_ hk_ => ⟨hk_.1.1.1, hk_.1.1.2.1, hk_.1.1.2.2.1, hk_.1.1.2.2.2.1, hk_.1.1.2.2.2.2⟩)); have n6_ := Aside0.mk (Kd.R_reok rfl hy0 (fun k_ e_ => HO_703000.out.1 k_ e_)); have n7_ := Aside0.mk (Kd.R_reok rfl hy1 (fun k_ e_ => HO_703001.out.1 k_ e_)); have n8_ := Aside0.mk (Kd.R_reok rfl hy2 (fun k_ e_ => HO_703002.out.1 k_ e_)); have n9_ := Aside0.mk (blk_kept (la_ BK660) hkp (fun hs_ => Or.elim hs_ (fun e_ => (fun e_ => (Kd.R_ne HO_703000.out BK660.out (by decide)) e_) e_) (fun e_ => Or.elim e_ (fun e_ => (fun e_ => (Kd.R_ne HO_703001.out BK660.out (by decide)) e_) e_) (fun e_ => (fun e_ => (Kd.R_ne HO_703002.out BK660.out (by decide)) e_) e_)))); have n10_ := Aside0.mk (blk_kept (la_ BK681) hkp (fun hs_ => Or.elim hs_ (fun e_ => (fun e_ => (Kd.R_ne HO_703000.out BK681.out (by decide)) e_) e_) (fun e_ => Or.elim e_ (fun e_ => (fun e_ => (Kd.R_ne HO_703001.out BK681.out (by decide)) e_) e_) (fun e_ => (fun e_ => (Kd.R_ne HO_703002.out BK681.out (by decide)) e_) e_)))); have n11_ := Aside0.mk (blk_kept (la_ BK691) hkp (fun hs_ => Or.elim hs_ (fun e_ => (fun e_ => (Kd.R_ne HO_703000.out BK691.out (by decide)) e_) e_) (fun e_ => Or.elim e_ (fun e_ => (fun e_ => (Kd.R_ne HO_703001.out BK691.out (by decide)) e_) e_) (fun e_ => (fun e_ => (Kd.R_ne HO_703002.out BK691.out (by decide)) e_) e_)))); have n12_ := Aside0.mk (blk_kept (la_ BK702) hkp (fun hs_ => Or.elim hs_ (fun e_ => (fun e_ => (Kd.R_ne HO_703000.out BK702.out (by decide)) e_) e_) (fun e_ => Or.elim e_ (fun e_ => (fun e_ => (Kd.R_ne HO_703001.out BK702.out (by decide)) e_) e_) (fun e_ => (fun e_ => (Kd.R_ne HO_703002.out BK702.out (by decide)) e_) e_)))); have n13_ := Aside0.mk (hb); clear HO_682000; clear HO_682001; clear HO_682002; clear HO_692000; clear HO_692001; clear HO_692002; clear HO_703000; clear HO_703001; clear HO_703002; clear BK660; clear BK681; clear BK691; clear BK702; clear HB; have HO_682000 := n0_; have HO_682001 := n1_; have HO_682002 := n2_; have HO_692000 := n3_; have HO_692001 := n4_; have HO_692002 := n5_; have HO_703000 := n6_; have HO_703001 := n7_; have HO_703002 := n8_; have BK660 := n9_; have BK681 := n10_; have BK691 := n11_; have BK702 := n12_; have HB := n13_; clear n0_ n1_ n2_ n3_ n4_ n5_ n6_ n7_ n8_ n9_ n10_ n11_ n12_ n13_; (try clear hb); (try clear hkp); (try clear hy0); (try clear hy1); (try clear hy2); have hcz112_0 : w111.cell? ⟨gb702, 0, none⟩ = some (.slice Ao38 t692.length co38) := (blk_cell BK702.out 0).trans rfl; have hcz112_1 : w111.cell? ⟨gb702, 1, none⟩ = some (.slice Ao43 t695.length co43) := (blk_cell BK702.out 1).trans rfl; have hcz112_2 : w111.cell? ⟨gb702, 2, none⟩ = some (.slice Ao44 t698.length co44) := (blk_cell BK702.out 2).trans rfl; have hfz112_0 := blk_frozen BK702.out 0; have hfz112_1 := blk_frozen BK702.out 1; have hfz112_2 := blk_frozen BK702.out 2) | ((with_reducible refine gate_callee (f := 27) rfl ?_); refine goesL_ (some 67) rfl rfl Try.func27 (by kernel_rfl) rfl #[.agg #[.slice Ao38 t720.length co38, .slice Ao43 t721.length co43, .slice Ao44 t722.length co44], .int .i64 1] rfl (by (try simp only [List.map_toArray, List.map_cons, List.map_nil]); first | done | (rw [show t720.length = t692.length from (Kd.R_reads' HO_703000.out).1.symm, show t721.length = t695.length from (Kd.R_reads' HO_703001.out).1.symm, show t722.length = t698.length from (Kd.R_reads' HO_703002.out).1.symm] <;> rfl) | rfl | (simp only [List.length_drop, List.length_take]; rfl)) ?_; (with_reducible refine (laws_heldDesk.calls kj67 _ _ t720 _ _ t721 _ _ t722 1 t723 _ ?side1 ?side2 ?side3 ?side4 ?side5 ?side6 A101.out).mono ?_); (case side1 => repeat (first | exact (Kd.R_reads' HO_703000.out).2.2 | (with_reducible first | apply cA_ | apply cN_ | apply cD_))); (case side2 => rw [show t720.length = t692.length from (Kd.R_reads' HO_703000.out).1.symm]; exact (Kd.R_reads' HO_703000.out).2.1); (case side3 => repeat (first | exact (Kd.R_reads' HO_703001.out).2.2 | (with_reducible first | apply cA_ | apply cN_ | apply cD_))); (case side4 => rw [show t721.length = t695.length from (Kd.R_reads' HO_703001.out).1.symm]; exact (Kd.R_reads' HO_703001.out).2.1); (case side5 => repeat (first | exact (Kd.R_reads' HO_703002.out).2.2 | (with_reducible first | apply cA_ | apply cN_ | apply cD_))); (case side6 => rw [show t722.length = t698.length from (Kd.R_reads' HO_703002.out).1.symm]; exact (Kd.R_reads' HO_703002.out).2.1); rintro e w113 ⟨rfl, hb⟩; refine ⟨_, rfl, ?_⟩; have n0_ := Aside0.mk (Kd.R_below (ra_ HO_682000) hb); have n1_ := Aside0.mk (Kd.R_below (ra_ HO_682001) hb); have n2_ := Aside0.mk (Kd.R_below (ra_ HO_682002) hb); have n3_ := Aside0.mk (Kd.R_below (ra_ HO_692000) hb); have n4_ := Aside0.mk (Kd.R_below (ra_ HO_692001) hb); have n5_ := Aside0.mk (Kd.R_below (ra_ HO_692002) hb); have n6_ := Aside0.mk (Kd.R_below (ra_ HO_703000) hb); have n7_ := Aside0.mk (Kd.R_below (ra_ HO_703001) hb); have n8_ := Aside0.mk (Kd.R_below (ra_ HO_703002) hb); have n9_ := Aside0.mk (lb_ BK660 hb); have n10_ := Aside0.mk (lb_ BK681 hb); have n11_ := Aside0.mk (lb_ BK691 hb); have n12_ := Aside0.mk (lb_ BK702 hb); have n13_ := Aside0.mk (below_step (bb4_ HB GE660 GE681 GE691 GE702) hb); clear HO_682000; clear HO_682001; clear HO_682002; clear HO_692000; clear HO_692001; clear HO_692002; clear HO_703000; clear HO_703001; clear HO_703002; clear BK660; clear BK681; clear BK691; clear BK702; clear HB; have HO_682000 := n0_; have HO_682001 := n1_; have HO_682002 := n2_; have HO_692000 := n3_; have HO_692001 := n4_; have HO_692002 := n5_; have HO_703000 := n6_; have HO_703001 := n7_; have HO_703002 := n8_; have BK660 := n9_; have BK681 := n10_; have BK691 := n11_; have BK702 := n12_; have HB := n13_; clear n0_ n1_ n2_ n3_ n4_ n5_ n6_ n7_ n8_ n9_ n10_ n11_ n12_ n13_; (try clear hb); (try clear hb2); (try clear hk); (try clear hi); have hnb114 := NB660_681.out; have hnc114 := NB681_660.out; have hnb115 := NB660_691.out; have hnc115 := NB691_660.out; have hcz116_0 : w113.cell? ⟨gb660, 0, none⟩ = some (.slice A0_0 l0_0.length c0_0) := (blk_cell BK660.out 0).trans rfl; have hcz116_1 : w113.cell? ⟨gb660, 1, none⟩ = some (.slice A0_1 l0_1.length c0_1) := (blk_cell BK660.out 1).trans rfl; have hcz116_2 : w113.cell? ⟨gb660, 2, none⟩ = some (.slice A0_2 l0_2.length c0_2) := (blk_cell BK660.out 2).trans rfl; have hfz116_0 := blk_frozen BK660.out 0; have hfz116_1 := blk_frozen BK660.out 1; have hfz116_2 := blk_frozen BK660.out 2) | ((with_reducible refine gate_callee (f := 30) rfl ?_); refine goesL_ (some 75) rfl rfl Try.func30 (by kernel_rfl) rfl #[.agg #[.slice A0_0 l0_0.length c0_0, .slice A0_1 l0_1.length c0_1, .slice A0_2 l0_2.length c0_2]] rfl args_ ?_; (with_reducible refine (laws_toDesk.calls kj67 _ _ l0_0 _ _ l0_1 _ _ l0_2 t724 t727 t730 _ ?side1 ?side2 ?side3 ?side4 ?side5 ?side6 A104.out).mono ?_); (case side1 => repeat (first | exact (Kd.C_below HR0_0.out HB.out) | (with_reducible first | apply cA_ | apply cN_ | apply cD_))); (case side2 => exact HC0_0.out); (case side3 => repeat (first | exact (Kd.C_below HR0_1.out HB.out) | (with_reducible first | apply cA_ | apply cN_ | apply cD_))); (case side4 => exact HC0_1.out); (case side5 => repeat (first | exact (Kd.C_below HR0_2.out HB.out) | (with_reducible first | apply cA_ | apply cN_ | apply cD_))); (case side6 => exact HC0_2.out); rintro e w117 ⟨v725, v728, v731, rfl, ho0, ho1, ho2, hb⟩; refine ⟨_, rfl, ?_⟩; have n0_ := Aside0.mk (Kd.R_elder' (ra_ HO_682000) (Kd.R_base ho0) hb); have n1_ := Aside0.mk (Kd.R_mono (Kd.R_told (Kd.R_told (Kd.R_old (ra_ HO_682001) hb) (Kd.R_base ho1)) (Kd.R_base ho2)) (fun _ h_ => h_.1)); have n2_ := Aside0.mk (Kd.R_mono (Kd.R_told (Kd.R_told (Kd.R_old (ra_ HO_682002) hb) (Kd.R_base ho1)) (Kd.R_base ho2)) (fun _ h_ => h_.1)); have n3_ := Aside0.mk (Kd.R_elder' (ra_ HO_692000) (Kd.R_base ho0) hb); have n4_ := Aside0.mk (Kd.R_mono (Kd.R_told (Kd.R_told (Kd.R_old (ra_ HO_692001) hb) (Kd.R_base ho1)) (Kd.R_base ho2)) (fun _ h_ => h_.1)); have n5_ := Aside0.mk (Kd.R_mono (Kd.R_told (Kd.R_told (Kd.R_old (ra_ HO_692002) hb) (Kd.R_base ho1)) (Kd.R_base ho2)) (fun _ h_ => h_.1)); have n6_ := Aside0.mk (Kd.R_elder' (ra_ HO_703000) (Kd.R_base ho0) hb); have n7_ := Aside0.mk (Kd.R_mono (Kd.R_told (Kd.R_told (Kd.R_old (ra_ HO_703001) hb) (Kd.R_base ho1)) (Kd.R_base ho2)) (fun _ h_ => h_.1)); have n8_ := Aside0.mk (Kd.R_mono (Kd.R_told (Kd.R_told (Kd.R_old (ra_ HO_703002) hb) (Kd.R_base ho1)) (Kd.R_base ho2)) (fun _ h_ => h_.1)); have n9_ := Aside0.mk (Kd.R_lower (Kd.R_new' (Kd.R_new' (Kd.R_new' ho0 (Kd.R_lt (ra_ HO_682000))) (Kd.R_lt (ra_ HO_692000))) (Kd.R_lt (ra_ HO_703000))) (below_size (bb4_ HB GE660 GE681 GE691 GE702))); have n10_ := Aside0.mk (Kd.R_lower (Kd.R_new' (Kd.R_new' (Kd.R_new' (Kd.R_new' (Kd.R_new' (Kd.R_new' ho1 (Kd.R_lt (ra_ HO_682001))) (Kd.R_lt (ra_ HO_682002))) (Kd.R_lt (ra_ HO_692001))) (Kd.R_lt (ra_ HO_692002))) (Kd.R_lt (ra_ HO_703001))) (Kd.R_lt (ra_ HO_703002))) (below_size (bb4_ HB GE660 GE681 GE691 GE702))); have n11_ := Aside0.mk (Kd.R_lower (Kd.R_new' (Kd.R_new' (Kd.R_new' (Kd.R_new' (Kd.R_new' (Kd.R_new' ho2 (Kd.R_lt (ra_ HO_682001))) (Kd.R_lt (ra_ HO_682002))) (Kd.R_lt (ra_ HO_692001))) (Kd.R_lt (ra_ HO_692002))) (Kd.R_lt (ra_ HO_703001))) (Kd.R_lt (ra_ HO_703002))) (below_size (bb4_ HB GE660 GE681 GE691 GE702))); have n12_ := Aside0.mk (lb_ BK660 hb); have n13_ := Aside0.mk (lb_ BK681 hb); have n14_ := Aside0.mk (lb_ BK691 hb); have n15_ := Aside0.mk (lb_ BK702 hb); have n16_ := Aside0.mk (below_step (bb4_ HB GE660 GE681 GE691 GE702) hb); clear HO_682000; clear HO_682001; clear HO_682002; clear HO_692000; clear HO_692001; clear HO_692002; clear HO_703000; clear HO_703001; clear HO_703002; clear BK660; clear BK681; clear BK691; clear BK702; clear HB; have HO_682000 := n0_; have HO_682001 := n1_; have HO_682002 := n2_; have HO_692000 := n3_; have HO_692001 := n4_; have HO_692002 := n5_; have HO_703000 := n6_; have HO_703001 := n7_; have HO_703002 := n8_; have HO726 := n9_; have HO729 := n10_; have HO732 := n11_; have BK660 := n12_; have BK681 := n13_; have BK691 := n14_; have BK702 := n15_; have HB := n16_; clear n0_ n1_ n2_ n3_ n4_ n5_ n6_ n7_ n8_ n9_ n10_ n11_ n12_ n13_ n14_ n15_ n16_; (try clear hb); (try clear hb2); (try clear hk); (try clear hi); (try clear ho0); (try clear ho1); (try clear ho2); obtain ⟨Ao118, co118, eo118⟩ := Kd.R_slice HO726.out; subst eo118; obtain ⟨Ao119, co119, eo119⟩ := Kd.R_slice HO729.out; subst eo119; obtain ⟨Ao120, co120, eo120⟩ := Kd.R_slice HO732.out; subst eo120) | ((with_reducible refine gate_callee (f := 38) rfl ?_); refine goesL_ (some 76) rfl rfl Try.func38 (by kernel_rfl) rfl #[.agg #[.slice Ao118 t724.length co118, .slice Ao119 t727.length co119, .slice Ao120 t730.length co120]] rfl args_ ?_; (with_reducible refine (impl_RedoEdit.calls kj67 _ _ t724 _ _ t727 _ _ t730 t733 t736 t739 t742 _ ?side1 ?side2 ?side3 ?side4 ?side5 ?side6 A105.out).mono ?_); (case side1 => repeat (first | exact (Kd.R_reads' HO726.out).2.2 | (with_reducible first | apply cA_ | apply cN_ | apply cD_))); (case side2 => exact (Kd.R_reads' HO726.out).2.1); (case side3 => repeat (first | exact (Kd.R_reads' HO729.out).2.2 | (with_reducible first | apply cA_ | apply cN_ | apply cD_))); (case side4 => exact (Kd.R_reads' HO729.out).2.1); (case side5 => repeat (first | exact (Kd.R_reads' HO732.out).2.2 | (with_reducible first | apply cA_ | apply cN_ | apply cD_))); (case side6 => exact (Kd.R_reads' HO732.out).2.1); rintro e w121 ⟨v734, v737, v740, rfl, ho0, ho1, ho2, hb⟩; refine ⟨_, rfl, ?_⟩; have n0_ := Aside0.mk (Kd.R_elder' (ra_ HO_682000) (Kd.R_base ho0) hb); have n1_ := Aside0.mk (Kd.R_mono (Kd.R_told (Kd.R_told (Kd.R_old (ra_ HO_682001) hb) (Kd.R_base ho1)) (Kd.R_base ho2)) (fun _ h_ => h_.1)); have n2_ := Aside0.mk (Kd.R_mono (Kd.R_told (Kd.R_told (Kd.R_old (ra_ HO_682002) hb) (Kd.R_base ho1)) (Kd.R_base ho2)) (fun _ h_ => h_.1)); have n3_ := Aside0.mk (Kd.R_elder' (ra_ HO_692000) (Kd.R_base ho0) hb); have n4_ := Aside0.mk (Kd.R_mono (Kd.R_told (Kd.R_told (Kd.R_old (ra_ HO_692001) hb) (Kd.R_base ho1)) (Kd.R_base ho2)) (fun _ h_ => h_.1)); have n5_ := Aside0.mk (Kd.R_mono (Kd.R_told (Kd.R_told (Kd.R_old (ra_ HO_692002) hb) (Kd.R_base ho1)) (Kd.R_base ho2)) (fun _ h_ => h_.1)); have n6_ := Aside0.mk (Kd.R_elder' (ra_ HO_703000) (Kd.R_base ho0) hb); have n7_ := Aside0.mk (Kd.R_mono (Kd.R_told (Kd.R_told (Kd.R_old (ra_ HO_703001) hb) (Kd.R_base ho1)) (Kd.R_base ho2)) (fun _ h_ => h_.1)); have n8_ := Aside0.mk (Kd.R_mono (Kd.R_told (Kd.R_told (Kd.R_old (ra_ HO_703002) hb) (Kd.R_base ho1)) (Kd.R_base ho2)) (fun _ h_ => h_.1)); have n9_ := Aside0.mk (Kd.R_elder' (ra_ HO726) (Kd.R_base ho0) hb); have n10_ := Aside0.mk (Kd.R_mono (Kd.R_told (Kd.R_told (Kd.R_old (ra_ HO729) hb) (Kd.R_base ho1)) (Kd.R_base ho2)) (fun _ h_ => h_.1)); have n11_ := Aside0.mk (Kd.R_mono (Kd.R_told (Kd.R_told (Kd.R_old (ra_ HO732) hb) (Kd.R_base ho1)) (Kd.R_base ho2)) (fun _ h_ => h_.1)); have n12_ := Aside0.mk (Kd.R_lower (Kd.R_new' (Kd.R_new' (Kd.R_new' (Kd.R_new' ho0 (Kd.R_lt (ra_ HO_682000))) (Kd.R_lt (ra_ HO_692000))) (Kd.R_lt (ra_ HO_703000))) (Kd.R_lt (ra_ HO726))) (below_size (bb4_ HB GE660 GE681 GE691 GE702))); have n13_ := Aside0.mk (Kd.R_lower (Kd.R_new' (Kd.R_new' (Kd.R_new' (Kd.R_new' (Kd.R_new' (Kd.R_new' (Kd.R_new' (Kd.R_new' ho1 (Kd.R_lt (ra_ HO_682001))) (Kd.R_lt (ra_ HO_682002))) (Kd.R_lt (ra_ HO_692001))) (Kd.R_lt (ra_ HO_692002))) (Kd.R_lt (ra_ HO_703001))) (Kd.R_lt (ra_ HO_703002))) (Kd.R_lt (ra_ HO729))) (Kd.R_lt (ra_ HO732))) (below_size (bb4_ HB GE660 GE681 GE691 GE702))); have n14_ := Aside0.mk (Kd.R_lower (Kd.R_new' (Kd.R_new' (Kd.R_new' (Kd.R_new' (Kd.R_new' (Kd.R_new' (Kd.R_new' (Kd.R_new' ho2 (Kd.R_lt (ra_ HO_682001))) (Kd.R_lt (ra_ HO_682002))) (Kd.R_lt (ra_ HO_692001))) (Kd.R_lt (ra_ HO_692002))) (Kd.R_lt (ra_ HO_703001))) (Kd.R_lt (ra_ HO_703002))) (Kd.R_lt (ra_ HO729))) (Kd.R_lt (ra_ HO732))) (below_size (bb4_ HB GE660 GE681 GE691 GE702))); have n15_ := Aside0.mk (lb_ BK660 hb); have n16_ := Aside0.mk (lb_ BK681 hb); have n17_ := Aside0.mk (lb_ BK691 hb); have n18_ := Aside0.mk (lb_ BK702 hb); have n19_ := Aside0.mk (below_step (bb4_ HB GE660 GE681 GE691 GE702) hb); clear HO_682000; clear HO_682001; clear HO_682002; clear HO_692000; clear HO_692001; clear HO_692002; clear HO_703000; clear HO_703001; clear HO_703002; clear HO726; clear HO729; clear HO732; clear BK660; clear BK681; clear BK691; clear BK702; clear HB; have HO_682000 := n0_; have HO_682001 := n1_; have HO_682002 := n2_; have HO_692000 := n3_; have HO_692001 := n4_; have HO_692002 := n5_; have HO_703000 := n6_; have HO_703001 := n7_; have HO_703002 := n8_; have HO726 := n9_; have HO729 := n10_; have HO732 := n11_; have HO735 := n12_; have HO738 := n13_; have HO741 := n14_; have BK660 := n15_; have BK681 := n16_; have BK691 := n17_; have BK702 := n18_; have HB := n19_; clear n0_ n1_ n2_ n3_ n4_ n5_ n6_ n7_ n8_ n9_ n10_ n11_ n12_ n13_ n14_ n15_ n16_ n17_ n18_ n19_; (try clear hb); (try clear hb2); (try clear hk); (try clear hi); (try clear ho0); (try clear ho1); (try clear ho2)) | ((with_reducible refine gate_dst (N := 12) rfl ?_); refine box_event ?hg (N := 12) ?hd (cs := #[.slice none 0 0, .slice none 0 0, .slice none 0 0]) (t := 35) ?hr ?_; (case hd => rfl); (case hg => rfl); (case hr => first | (go_simp; done) | (go_simp; rfl)); intro gb743 hg w122 hbox hb; have n0_ := Aside0.mk (Kd.R_below (ra_ HO_682000) hb); have n1_ := Aside0.mk (Kd.R_below (ra_ HO_682001) hb); have n2_ := Aside0.mk (Kd.R_below (ra_ HO_682002) hb); have n3_ := Aside0.mk (Kd.R_below (ra_ HO_692000) hb); have n4_ := Aside0.mk (Kd.R_below (ra_ HO_692001) hb); have n5_ := Aside0.mk (Kd.R_below (ra_ HO_692002) hb); have n6_ := Aside0.mk (Kd.R_below (ra_ HO_703000) hb); have n7_ := Aside0.mk (Kd.R_below (ra_ HO_703001) hb); have n8_ := Aside0.mk (Kd.R_below (ra_ HO_703002) hb); have n9_ := Aside0.mk (Kd.R_below (ra_ HO726) hb); have n10_ := Aside0.mk (Kd.R_below (ra_ HO729) hb); have n11_ := Aside0.mk (Kd.R_below (ra_ HO732) hb); have n12_ := Aside0.mk (Kd.R_below (ra_ HO735) hb); have n13_ := Aside0.mk (Kd.R_below (ra_ HO738) hb); have n14_ := Aside0.mk (Kd.R_below (ra_ HO741) hb); have n15_ := Aside0.mk (lb_ BK660 hb); have n16_ := Aside0.mk (lb_ BK681 hb); have n17_ := Aside0.mk (lb_ BK691 hb); have n18_ := Aside0.mk (lb_ BK702 hb); have n19_ := Aside0.mk (below_step (bb4_ HB GE660 GE681 GE691 GE702) hb); have n20_ := Aside0.mk (hbox); have n21_ := Aside0.mk ((by rw [hg]; exact (below_size (bb4_ HB GE660 GE681 GE691 GE702)) : w.heap.size ≤ gb743)); have n22_ := Aside0.mk ((by rw [hg]; exact (below_size (bb4_ HB GE660 GE681 GE691 GE702)) : w.heap.size ≤ gb743)); have n23_ := Aside0.mk ((by rw [hg]; exact Nat.ne_of_lt (blk_lt (g := gb660) (o := .cells #[.slice A0_0 l0_0.length c0_0, .slice A0_1 l0_1.length c0_1, .slice A0_2 l0_2.length c0_2] 45 (0, 0)) (la_ BK660)) : gb660 ≠ gb743)); have n24_ := Aside0.mk ((by rw [hg]; exact Nat.ne_of_gt (blk_lt (g := gb660) (o := .cells #[.slice A0_0 l0_0.length c0_0, .slice A0_1 l0_1.length c0_1, .slice A0_2 l0_2.length c0_2] 45 (0, 0)) (la_ BK660)) : gb743 ≠ gb660)); have n25_ := Aside0.mk ((by rw [hg]; exact Nat.ne_of_lt (blk_lt (g := gb681) (o := .cells #[.slice Ao22 t671.length co22, .slice Ao25 t674.length co25, .slice Ao26 t677.length co26] 35 (0, 0)) (la_ BK681)) : gb681 ≠ gb743)); have n26_ := Aside0.mk ((by rw [hg]; exact Nat.ne_of_gt (blk_lt (g := gb681) (o := .cells #[.slice Ao22 t671.length co22, .slice Ao25 t674.length co25, .slice Ao26 t677.length co26] 35 (0, 0)) (la_ BK681)) : gb743 ≠ gb681)); have n27_ := Aside0.mk ((by rw [hg]; exact Nat.ne_of_lt (blk_lt (g := gb691) (o := .cells #[.slice Ao30 t715.length co30, .slice Ao34 t716.length co34, .slice Ao35 t717.length co35] 35 (0, 0)) (la_ BK691)) : gb691 ≠ gb743)); have n28_ := Aside0.mk ((by rw [hg]; exact Nat.ne_of_gt (blk_lt (g := gb691) (o := .cells #[.slice Ao30 t715.length co30, .slice Ao34 t716.length co34, .slice Ao35 t717.length co35] 35 (0, 0)) (la_ BK691)) : gb743 ≠ gb691)); have n29_ := Aside0.mk ((by rw [hg]; exact Nat.ne_of_lt (blk_lt (g := gb702) (o := .cells #[.slice Ao38 t692.length co38, .slice Ao43 t695.length co43, .slice Ao44 t698.length co44] 35 (0, 0)) (la_ BK702)) : gb702 ≠ gb743)); have n30_ := Aside0.mk ((by rw [hg]; exact Nat.ne_of_gt (blk_lt (g := gb702) (o := .cells #[.slice Ao38 t692.length co38, .slice Ao43 t695.length co43, .slice Ao44 t698.length co44] 35 (0, 0)) (la_ BK702)) : gb743 ≠ gb702)); clear HO_682000; clear HO_682001; clear HO_682002; clear HO_692000; clear HO_692001; clear HO_692002; clear HO_703000; clear HO_703001; clear HO_703002; clear HO726; clear HO729; clear HO732; clear HO735; clear HO738; clear HO741; clear BK660; clear BK681; clear BK691; clear BK702; clear HB; have HO_682000 := n0_; have HO_682001 := n1_; have HO_682002 := n2_; have HO_692000 := n3_; have HO_692001 := n4_; have HO_692002 := n5_; have HO_703000 := n6_; have HO_703001 := n7_; have HO_703002 := n8_; have HO726 := n9_; have HO729 := n10_; have HO732 := n11_; have HO735 := n12_; have HO738 := n13_; have HO741 := n14_; have BK660 := n15_; have BK681 := n16_; have BK691 := n17_; have BK702 := n18_; have HB := n19_; have BK743 := n20_; have GW743 := n21_; have GE743 := n22_; have NB660_743 := n23_; have NB743_660 := n24_; have NB681_743 := n25_; have NB743_681 := n26_; have NB691_743 := n27_; have NB743_691 := n28_; have NB702_743 := n29_; have NB743_702 := n30_; clear n0_ n1_ n2_ n3_ n4_ n5_ n6_ n7_ n8_ n9_ n10_ n11_ n12_ n13_ n14_ n15_ n16_ n17_ n18_ n19_ n20_ n21_ n22_ n23_ n24_ n25_ n26_ n27_ n28_ n29_ n30_; clear hb hbox hg; obtain ⟨Ao123, co123, eo123⟩ := Kd.R_slice HO735.out; subst eo123; have hnb124 := NB743_660.out; have hnc124 := NB660_743.out; have hnb125 := NB743_681.out; have hnc125 := NB681_743.out; have hnb126 := NB743_691.out; have hnc126 := NB691_743.out; have hnb127 := NB743_702.out; have hnc127 := NB702_743.out; have hcz128_0 : w122.cell? ⟨gb743, 0, none⟩ = some (.slice none 0 0) := (blk_cell BK743.out 0).trans rfl; have hcz128_1 : w122.cell? ⟨gb743, 1, none⟩ = some (.slice none 0 0) := (blk_cell BK743.out 1).trans rfl; have hcz128_2 : w122.cell? ⟨gb743, 2, none⟩ = some (.slice none 0 0) := (blk_cell BK743.out 2).trans rfl; have hfz128_0 := blk_frozen BK743.out 0; have hfz128_1 := blk_frozen BK743.out 1; have hfz128_2 := blk_frozen BK743.out 2; obtain ⟨Ao129, co129, eo129⟩ := Kd.R_slice HO738.out; subst eo129; obtain ⟨Ao130, co130, eo130⟩ := Kd.R_slice HO741.out; subst eo130))
           (try simp only [Act.put, List.setIfInBounds_toArray, List.set_cons_zero, List.set_cons_succ])
           go_cut [87] (fun v87 wc => ∃ (kq : Nat) (x87_105 : Bool), v87 = .bool x87_105 ∧ Aside0 (laws_FnExactRedoEdit.j2 kq t719 x87_105 t720 t721 t722 = some r) ∧ Aside0 (kq ≤ kj67) ∧ Aside0 (Kd.R Kd.string 9 wc w.heap.size (fun k_ => some k_ ≠ ((.slice Ao30 t715.length co30) : Value).ownBlock ∧ some k_ ≠ ((.slice Ao38 t692.length co38) : Value).ownBlock ∧ some k_ ≠ ((.slice Ao123 t733.length co123) : Value).ownBlock) (.slice Ao22 t671.length co22) t671) ∧ Aside0 (Kd.R k25 25 wc w.heap.size (fun k_ => some k_ ≠ ((.slice Ao26 t677.length co26) : Value).ownBlock ∧ some k_ ≠ ((.slice Ao34 t716.length co34) : Value).ownBlock ∧ some k_ ≠ ((.slice Ao35 t717.length co35) : Value).ownBlock ∧ some k_ ≠ ((.slice Ao43 t695.length co43) : Value).ownBlock ∧ some k_ ≠ ((.slice Ao44 t698.length co44) : Value).ownBlock ∧ some k_ ≠ ((.slice Ao129 t736.length co129) : Value).ownBlock ∧ some k_ ≠ ((.slice Ao130 t739.length co130) : Value).ownBlock) (.slice Ao25 t674.length co25) t674) ∧ Aside0 (Kd.R k25 25 wc w.heap.size (fun k_ => some k_ ≠ ((.slice Ao25 t674.length co25) : Value).ownBlock ∧ some k_ ≠ ((.slice Ao34 t716.length co34) : Value).ownBlock ∧ some k_ ≠ ((.slice Ao35 t717.length co35) : Value).ownBlock ∧ some k_ ≠ ((.slice Ao43 t695.length co43) : Value).ownBlock ∧ some k_ ≠ ((.slice Ao44 t698.length co44) : Value).ownBlock ∧ some k_ ≠ ((.slice Ao129 t736.length co129) : Value).ownBlock ∧ some k_ ≠ ((.slice Ao130 t739.length co130) : Value).ownBlock) (.slice Ao26 t677.length co26) t677) ∧ Aside0 (Kd.R Kd.string 9 wc w.heap.size (fun k_ => some k_ ≠ ((.slice Ao22 t671.length co22) : Value).ownBlock ∧ some k_ ≠ ((.slice Ao38 t692.length co38) : Value).ownBlock ∧ some k_ ≠ ((.slice Ao123 t733.length co123) : Value).ownBlock) (.slice Ao30 t715.length co30) t715) ∧ Aside0 (Kd.R k25 25 wc w.heap.size (fun k_ => some k_ ≠ ((.slice Ao25 t674.length co25) : Value).ownBlock ∧ some k_ ≠ ((.slice Ao26 t677.length co26) : Value).ownBlock ∧ some k_ ≠ ((.slice Ao35 t717.length co35) : Value).ownBlock ∧ some k_ ≠ ((.slice Ao43 t695.length co43) : Value).ownBlock ∧ some k_ ≠ ((.slice Ao44 t698.length co44) : Value).ownBlock ∧ some k_ ≠ ((.slice Ao129 t736.length co129) : Value).ownBlock ∧ some k_ ≠ ((.slice Ao130 t739.length co130) : Value).ownBlock) (.slice Ao34 t716.length co34) t716) ∧ Aside0 (Kd.R k25 25 wc w.heap.size (fun k_ => some k_ ≠ ((.slice Ao25 t674.length co25) : Value).ownBlock ∧ some k_ ≠ ((.slice Ao26 t677.length co26) : Value).ownBlock ∧ some k_ ≠ ((.slice Ao34 t716.length co34) : Value).ownBlock ∧ some k_ ≠ ((.slice Ao43 t695.length co43) : Value).ownBlock ∧ some k_ ≠ ((.slice Ao44 t698.length co44) : Value).ownBlock ∧ some k_ ≠ ((.slice Ao129 t736.length co129) : Value).ownBlock ∧ some k_ ≠ ((.slice Ao130 t739.length co130) : Value).ownBlock) (.slice Ao35 t717.length co35) t717) ∧ Aside0 (Kd.R Kd.string 9 wc w.heap.size (fun k_ => some k_ ≠ ((.slice Ao22 t671.length co22) : Value).ownBlock ∧ some k_ ≠ ((.slice Ao30 t715.length co30) : Value).ownBlock ∧ some k_ ≠ ((.slice Ao123 t733.length co123) : Value).ownBlock) (.slice Ao38 t692.length co38) t720) ∧ Aside0 (Kd.R k25 25 wc w.heap.size (fun k_ => some k_ ≠ ((.slice Ao25 t674.length co25) : Value).ownBlock ∧ some k_ ≠ ((.slice Ao26 t677.length co26) : Value).ownBlock ∧ some k_ ≠ ((.slice Ao34 t716.length co34) : Value).ownBlock ∧ some k_ ≠ ((.slice Ao35 t717.length co35) : Value).ownBlock ∧ some k_ ≠ ((.slice Ao44 t698.length co44) : Value).ownBlock ∧ some k_ ≠ ((.slice Ao129 t736.length co129) : Value).ownBlock ∧ some k_ ≠ ((.slice Ao130 t739.length co130) : Value).ownBlock) (.slice Ao43 t695.length co43) t721) ∧ Aside0 (Kd.R k25 25 wc w.heap.size (fun k_ => some k_ ≠ ((.slice Ao25 t674.length co25) : Value).ownBlock ∧ some k_ ≠ ((.slice Ao26 t677.length co26) : Value).ownBlock ∧ some k_ ≠ ((.slice Ao34 t716.length co34) : Value).ownBlock ∧ some k_ ≠ ((.slice Ao35 t717.length co35) : Value).ownBlock ∧ some k_ ≠ ((.slice Ao43 t695.length co43) : Value).ownBlock ∧ some k_ ≠ ((.slice Ao129 t736.length co129) : Value).ownBlock ∧ some k_ ≠ ((.slice Ao130 t739.length co130) : Value).ownBlock) (.slice Ao44 t698.length co44) t722) ∧ Aside0 (Kd.R Kd.string 9 wc w.heap.size (fun k_ => some k_ ≠ ((.slice Ao22 t671.length co22) : Value).ownBlock ∧ some k_ ≠ ((.slice Ao30 t715.length co30) : Value).ownBlock ∧ some k_ ≠ ((.slice Ao38 t692.length co38) : Value).ownBlock) (.slice Ao123 t733.length co123) t733) ∧ Aside0 (Kd.R k25 25 wc w.heap.size (fun k_ => some k_ ≠ ((.slice Ao25 t674.length co25) : Value).ownBlock ∧ some k_ ≠ ((.slice Ao26 t677.length co26) : Value).ownBlock ∧ some k_ ≠ ((.slice Ao34 t716.length co34) : Value).ownBlock ∧ some k_ ≠ ((.slice Ao35 t717.length co35) : Value).ownBlock ∧ some k_ ≠ ((.slice Ao43 t695.length co43) : Value).ownBlock ∧ some k_ ≠ ((.slice Ao44 t698.length co44) : Value).ownBlock ∧ some k_ ≠ ((.slice Ao130 t739.length co130) : Value).ownBlock) (.slice Ao129 t736.length co129) t736) ∧ Aside0 (Kd.R k25 25 wc w.heap.size (fun k_ => some k_ ≠ ((.slice Ao25 t674.length co25) : Value).ownBlock ∧ some k_ ≠ ((.slice Ao26 t677.length co26) : Value).ownBlock ∧ some k_ ≠ ((.slice Ao34 t716.length co34) : Value).ownBlock ∧ some k_ ≠ ((.slice Ao35 t717.length co35) : Value).ownBlock ∧ some k_ ≠ ((.slice Ao43 t695.length co43) : Value).ownBlock ∧ some k_ ≠ ((.slice Ao44 t698.length co44) : Value).ownBlock ∧ some k_ ≠ ((.slice Ao129 t736.length co129) : Value).ownBlock) (.slice Ao130 t739.length co130) t739) ∧ Aside0 (wc.heap[gb660]? = some (.cells #[(.slice A0_0 l0_0.length c0_0), (.slice A0_1 l0_1.length c0_1), (.slice A0_2 l0_2.length c0_2)] 45 (0, 0))) ∧ Aside0 (wc.heap[gb681]? = some (.cells #[(.slice Ao22 t671.length co22), (.slice Ao25 t674.length co25), (.slice Ao26 t677.length co26)] 35 (0, 0))) ∧ Aside0 (wc.heap[gb691]? = some (.cells #[(.slice Ao30 t715.length co30), (.slice Ao34 t716.length co34), (.slice Ao35 t717.length co35)] 35 (0, 0))) ∧ Aside0 (wc.heap[gb702]? = some (.cells #[(.slice Ao38 t692.length co38), (.slice Ao43 t695.length co43), (.slice Ao44 t698.length co44)] 35 (0, 0))) ∧ Aside0 (wc.heap[gb743]? = some (.cells #[(.slice Ao123 t733.length co123), (.slice Ao129 t736.length co129), (.slice Ao130 t739.length co130)] 35 (0, 0))) ∧ Aside0 (Below w.heap.size w wc))
           case first =>
            have H := HC106.out
            clear HC106
            replace H := Option.bind_eq_some_iff.mp H
            obtain ⟨t744, A1310, H⟩ := H
            try dsimp only at H
            have A131 := Aside0.mk A1310
            clear A1310
            by_cases c132 : t744 = true
            ·subst c132
             have H1 : (laws_FnExactRedoEdit.j2 kj67 t719 (t742 != t680) t720 t721 t722) = some r := by rw [if_pos rfl] at H; exact H
             clear H
             have H := H1
             clear H1
             have H' := Aside0.mk H
             clear H
             have hnb133 := NB743_660.out
             have hnc133 := NB660_743.out
             have hnb134 := NB743_681.out
             have hnc134 := NB681_743.out
             have hnb135 := NB743_691.out
             have hnc135 := NB691_743.out
             have hnb136 := NB743_702.out
             have hnc136 := NB702_743.out
             have hcz137_0 : w122.cell? ⟨gb743, 0, none⟩ = some (.slice none 0 0) := (blk_cell BK743.out 0).trans rfl
             have hcz137_1 : w122.cell? ⟨gb743, 1, none⟩ = some (.slice none 0 0) := (blk_cell BK743.out 1).trans rfl
             have hcz137_2 : w122.cell? ⟨gb743, 2, none⟩ = some (.slice none 0 0) := (blk_cell BK743.out 2).trans rfl
             have hfz137_0 := blk_frozen BK743.out 0
             have hfz137_1 := blk_frozen BK743.out 1
             have hfz137_2 := blk_frozen BK743.out 2
             have hnb138 := NB681_660.out
             have hnc138 := NB660_681.out
             have hnb139 := NB681_691.out
             have hnc139 := NB691_681.out
             have hnb140 := NB681_702.out
             have hnc140 := NB702_681.out
             have hcz141_0 : w122.cell? ⟨gb681, 0, none⟩ = some (.slice Ao22 t671.length co22) := (blk_cell BK681.out 0).trans rfl
             have hcz141_1 : w122.cell? ⟨gb681, 1, none⟩ = some (.slice Ao25 t674.length co25) := (blk_cell BK681.out 1).trans rfl
             have hcz141_2 : w122.cell? ⟨gb681, 2, none⟩ = some (.slice Ao26 t677.length co26) := (blk_cell BK681.out 2).trans rfl
             have hfz141_0 := blk_frozen BK681.out 0
             have hfz141_1 := blk_frozen BK681.out 1
             have hfz141_2 := blk_frozen BK681.out 2
             go_wp2_with (first | ((with_reducible refine gate_callee (f := 23) rfl ?_); refine goesL_ (some 81) rfl rfl Try.func23 (by kernel_rfl) rfl #[.agg #[.slice Ao123 t733.length co123, .slice Ao129 t736.length co129, .slice Ao130 t739.length co130], .agg #[.slice Ao22 t671.length co22, .slice Ao25 t674.length co25, .slice Ao26 t677.length co26]] rfl args_ ?_; (with_reducible refine (laws_eqDesk.calls kj67 _ _ t733 _ _ t736 _ _ t739 _ _ t671 _ _ t674 _ _ t677 true _ ?side1 ?side2 ?side3 ?side4 ?side5 ?side6 ?side7 ?side8 ?side9 ?side10 ?side11 ?side12 A131.out).mono ?_); (case side1 => refine (Kd.R_reads' (e := 9) (base := w.heap.size) (ok := fun k_ => ((((True ∧ some k_ ≠ (.slice Ao22 t671.length co22 : Value).ownBlock) ∧ some k_ ≠ (.slice Ao30 t715.length co30 : Value).ownBlock) ∧ some k_ ≠ (.slice Ao38 t692.length co38 : Value).ownBlock) ∧ some k_ ≠ (.slice Ao118 t724.length co118 : Value).ownBlock)) (n := t733.length) (c := co123) ?_).2.2; exact (rf_ (fm_ (fr_ (fr_ (fr_ (ft_ HO735 BK743) 0 (.slice Ao123 t733.length co123)) 1 (.slice Ao129 t736.length co129)) 2 (.slice Ao130 t739.length co130))))); (case side2 => exact (Kd.R_reads' HO735.out).2.1); (case side3 => refine (Kd.R_reads' (e := 25) (base := w.heap.size) (ok := fun k_ => ((((((((some k_ ≠ (.slice Ao130 t739.length co130 : Value).ownBlock ∧ some k_ ≠ (.slice Ao25 t674.length co25 : Value).ownBlock) ∧ some k_ ≠ (.slice Ao26 t677.length co26 : Value).ownBlock) ∧ some k_ ≠ (.slice Ao34 t716.length co34 : Value).ownBlock) ∧ some k_ ≠ (.slice Ao35 t717.length co35 : Value).ownBlock) ∧ some k_ ≠ (.slice Ao43 t695.length co43 : Value).ownBlock) ∧ some k_ ≠ (.slice Ao44 t698.length co44 : Value).ownBlock) ∧ some k_ ≠ (.slice Ao119 t727.length co119 : Value).ownBlock) ∧ some k_ ≠ (.slice Ao120 t730.length co120 : Value).ownBlock)) (n := t736.length) (c := co129) ?_).2.2; exact (rf_ (fm_ (fr_ (fr_ (fr_ (ft_ HO738 BK743) 0 (.slice Ao123 t733.length co123)) 1 (.slice Ao129 t736.length co129)) 2 (.slice Ao130 t739.length co130))))); (case side4 => exact (Kd.R_reads' HO738.out).2.1); (case side5 => refine (Kd.R_reads' (e := 25) (base := w.heap.size) (ok := fun k_ => ((((((((some k_ ≠ (.slice Ao129 t736.length co129 : Value).ownBlock ∧ some k_ ≠ (.slice Ao25 t674.length co25 : Value).ownBlock) ∧ some k_ ≠ (.slice Ao26 t677.length co26 : Value).ownBlock) ∧ some k_ ≠ (.slice Ao34 t716.length co34 : Value).ownBlock) ∧ some k_ ≠ (.slice Ao35 t717.length co35 : Value).ownBlock) ∧ some k_ ≠ (.slice Ao43 t695.length co43 : Value).ownBlock) ∧ some k_ ≠ (.slice Ao44 t698.length co44 : Value).ownBlock) ∧ some k_ ≠ (.slice Ao119 t727.length co119 : Value).ownBlock) ∧ some k_ ≠ (.slice Ao120 t730.length co120 : Value).ownBlock)) (n := t739.length) (c := co130) ?_).2.2; exact (rf_ (fm_ (fr_ (fr_ (fr_ (ft_ HO741 BK743) 0 (.slice Ao123 t733.length co123)) 1 (.slice Ao129 t736.length co129)) 2 (.slice Ao130 t739.length co130))))); (case side6 => exact (Kd.R_reads' HO741.out).2.1); (case side7 => refine (Kd.R_reads' (e := 9) (base := w.heap.size) (ok := fun k_ => (((some k_ ≠ (.slice Ao30 t715.length co30 : Value).ownBlock ∧ some k_ ≠ (.slice Ao38 t692.length co38 : Value).ownBlock) ∧ some k_ ≠ (.slice Ao118 t724.length co118 : Value).ownBlock) ∧ some k_ ≠ (.slice Ao123 t733.length co123 : Value).ownBlock)) (n := t671.length) (c := co22) ?_).2.2; exact (rf_ (fm_ (fr_ (fr_ (fr_ (ft_ HO_682000 BK743) 0 (.slice Ao123 t733.length co123)) 1 (.slice Ao129 t736.length co129)) 2 (.slice Ao130 t739.length co130))))); (case side8 => exact (Kd.R_reads' HO_682000.out).2.1); (case side9 => refine (Kd.R_reads' (e := 25) (base := w.heap.size) (ok := fun k_ => (((((some k_ ≠ (.slice Ao26 t677.length co26 : Value).ownBlock ∧ (some k_ ≠ (.slice Ao34 t716.length co34 : Value).ownBlock ∧ (some k_ ≠ (.slice Ao35 t717.length co35 : Value).ownBlock ∧ (some k_ ≠ (.slice Ao43 t695.length co43 : Value).ownBlock ∧ some k_ ≠ (.slice Ao44 t698.length co44 : Value).ownBlock)))) ∧ some k_ ≠ (.slice Ao119 t727.length co119 : Value).ownBlock) ∧ some k_ ≠ (.slice Ao120 t730.length co120 : Value).ownBlock) ∧ some k_ ≠ (.slice Ao129 t736.length co129 : Value).ownBlock) ∧ some k_ ≠ (.slice Ao130 t739.length co130 : Value).ownBlock)) (n := t674.length) (c := co25) ?_).2.2; exact (rf_ (fm_ (fr_ (fr_ (fr_ (ft_ HO_682001 BK743) 0 (.slice Ao123 t733.length co123)) 1 (.slice Ao129 t736.length co129)) 2 (.slice Ao130 t739.length co130))))); (case side10 => exact (Kd.R_reads' HO_682001.out).2.1); (case side11 => refine (Kd.R_reads' (e := 25) (base := w.heap.size) (ok := fun k_ => (((((some k_ ≠ (.slice Ao25 t674.length co25 : Value).ownBlock ∧ (some k_ ≠ (.slice Ao34 t716.length co34 : Value).ownBlock ∧ (some k_ ≠ (.slice Ao35 t717.length co35 : Value).ownBlock ∧ (some k_ ≠ (.slice Ao43 t695.length co43 : Value).ownBlock ∧ some k_ ≠ (.slice Ao44 t698.length co44 : Value).ownBlock)))) ∧ some k_ ≠ (.slice Ao119 t727.length co119 : Value).ownBlock) ∧ some k_ ≠ (.slice Ao120 t730.length co120 : Value).ownBlock) ∧ some k_ ≠ (.slice Ao129 t736.length co129 : Value).ownBlock) ∧ some k_ ≠ (.slice Ao130 t739.length co130 : Value).ownBlock)) (n := t677.length) (c := co26) ?_).2.2; exact (rf_ (fm_ (fr_ (fr_ (fr_ (ft_ HO_682002 BK743) 0 (.slice Ao123 t733.length co123)) 1 (.slice Ao129 t736.length co129)) 2 (.slice Ao130 t739.length co130))))); (case side12 => exact (Kd.R_reads' HO_682002.out).2.1); rintro e w142 ⟨rfl, hb⟩; refine ⟨_, rfl, ?_⟩; have n0_ := Aside0.mk (Kd.R_below (rf_ (fm_ (fr_ (fr_ (fr_ (ft_ HO_682000 BK743) 0 (.slice Ao123 t733.length co123)) 1 (.slice Ao129 t736.length co129)) 2 (.slice Ao130 t739.length co130)))) hb); have n1_ := Aside0.mk (Kd.R_below (rf_ (fm_ (fr_ (fr_ (fr_ (ft_ HO_682001 BK743) 0 (.slice Ao123 t733.length co123)) 1 (.slice Ao129 t736.length co129)) 2 (.slice Ao130 t739.length co130)))) hb); have n2_ := Aside0.mk (Kd.R_below (rf_ (fm_ (fr_ (fr_ (fr_ (ft_ HO_682002 BK743) 0 (.slice Ao123 t733.length co123)) 1 (.slice Ao129 t736.length co129)) 2 (.slice Ao130 t739.length co130)))) hb); have n3_ := Aside0.mk (Kd.R_below (rf_ (fm_ (fr_ (fr_ (fr_ (ft_ HO_692000 BK743) 0 (.slice Ao123 t733.length co123)) 1 (.slice Ao129 t736.length co129)) 2 (.slice Ao130 t739.length co130)))) hb); have n4_ := Aside0.mk (Kd.R_below (rf_ (fm_ (fr_ (fr_ (fr_ (ft_ HO_692001 BK743) 0 (.slice Ao123 t733.length co123)) 1 (.slice Ao129 t736.length co129)) 2 (.slice Ao130 t739.length co130)))) hb); have n5_ := Aside0.mk (Kd.R_below (rf_ (fm_ (fr_ (fr_ (fr_ (ft_ HO_692002 BK743) 0 (.slice Ao123 t733.length co123)) 1 (.slice Ao129 t736.length co129)) 2 (.slice Ao130 t739.length co130)))) hb); have n6_ := Aside0.mk (Kd.R_below (rf_ (fm_ (fr_ (fr_ (fr_ (ft_ HO_703000 BK743) 0 (.slice Ao123 t733.length co123)) 1 (.slice Ao129 t736.length co129)) 2 (.slice Ao130 t739.length co130)))) hb); have n7_ := Aside0.mk (Kd.R_below (rf_ (fm_ (fr_ (fr_ (fr_ (ft_ HO_703001 BK743) 0 (.slice Ao123 t733.length co123)) 1 (.slice Ao129 t736.length co129)) 2 (.slice Ao130 t739.length co130)))) hb); have n8_ := Aside0.mk (Kd.R_below (rf_ (fm_ (fr_ (fr_ (fr_ (ft_ HO_703002 BK743) 0 (.slice Ao123 t733.length co123)) 1 (.slice Ao129 t736.length co129)) 2 (.slice Ao130 t739.length co130)))) hb); have n9_ := Aside0.mk (Kd.R_below (rf_ (fm_ (fr_ (fr_ (fr_ (ft_ HO726 BK743) 0 (.slice Ao123 t733.length co123)) 1 (.slice Ao129 t736.length co129)) 2 (.slice Ao130 t739.length co130)))) hb); have n10_ := Aside0.mk (Kd.R_below (rf_ (fm_ (fr_ (fr_ (fr_ (ft_ HO729 BK743) 0 (.slice Ao123 t733.length co123)) 1 (.slice Ao129 t736.length co129)) 2 (.slice Ao130 t739.length co130)))) hb); have n11_ := Aside0.mk (Kd.R_below (rf_ (fm_ (fr_ (fr_ (fr_ (ft_ HO732 BK743) 0 (.slice Ao123 t733.length co123)) 1 (.slice Ao129 t736.length co129)) 2 (.slice Ao130 t739.length co130)))) hb); have n12_ := Aside0.mk (Kd.R_below (rf_ (fm_ (fr_ (fr_ (fr_ (ft_ HO735 BK743) 0 (.slice Ao123 t733.length co123)) 1 (.slice Ao129 t736.length co129)) 2 (.slice Ao130 t739.length co130)))) hb); have n13_ := Aside0.mk (Kd.R_below (rf_ (fm_ (fr_ (fr_ (fr_ (ft_ HO738 BK743) 0 (.slice Ao123 t733.length co123)) 1 (.slice Ao129 t736.length co129)) 2 (.slice Ao130 t739.length co130)))) hb); have n14_ := Aside0.mk (Kd.R_below (rf_ (fm_ (fr_ (fr_ (fr_ (ft_ HO741 BK743) 0 (.slice Ao123 t733.length co123)) 1 (.slice Ao129 t736.length co129)) 2 (.slice Ao130 t739.length co130)))) hb); have n15_ := Aside0.mk (blk_below (g := gb660) (o := .cells #[.slice A0_0 l0_0.length c0_0, .slice A0_1 l0_1.length c0_1, .slice A0_2 l0_2.length c0_2] 45 (0, 0)) (by (with_reducible repeat (first | apply lN_ | apply lD_ | apply lA_)); refine blk_far ?_ NB660_743.out _; (with_reducible repeat (first | apply lN_ | apply lD_ | apply lA_)); refine blk_far ?_ NB660_743.out _; (with_reducible repeat (first | apply lN_ | apply lD_ | apply lA_)); refine blk_far ?_ NB660_743.out _; (with_reducible repeat (first | apply lN_ | apply lD_ | apply lA_)); exact BK660.out) hb); have n16_ := Aside0.mk (blk_below (g := gb681) (o := .cells #[.slice Ao22 t671.length co22, .slice Ao25 t674.length co25, .slice Ao26 t677.length co26] 35 (0, 0)) (by (with_reducible repeat (first | apply lN_ | apply lD_ | apply lA_)); refine blk_far ?_ NB681_743.out _; (with_reducible repeat (first | apply lN_ | apply lD_ | apply lA_)); refine blk_far ?_ NB681_743.out _; (with_reducible repeat (first | apply lN_ | apply lD_ | apply lA_)); refine blk_far ?_ NB681_743.out _; (with_reducible repeat (first | apply lN_ | apply lD_ | apply lA_)); exact BK681.out) hb); have n17_ := Aside0.mk (blk_below (g := gb691) (o := .cells #[.slice Ao30 t715.length co30, .slice Ao34 t716.length co34, .slice Ao35 t717.length co35] 35 (0, 0)) (by (with_reducible repeat (first | apply lN_ | apply lD_ | apply lA_)); refine blk_far ?_ NB691_743.out _; (with_reducible repeat (first | apply lN_ | apply lD_ | apply lA_)); refine blk_far ?_ NB691_743.out _; (with_reducible repeat (first | apply lN_ | apply lD_ | apply lA_)); refine blk_far ?_ NB691_743.out _; (with_reducible repeat (first | apply lN_ | apply lD_ | apply lA_)); exact BK691.out) hb); have n18_ := Aside0.mk (blk_below (g := gb702) (o := .cells #[.slice Ao38 t692.length co38, .slice Ao43 t695.length co43, .slice Ao44 t698.length co44] 35 (0, 0)) (by (with_reducible repeat (first | apply lN_ | apply lD_ | apply lA_)); refine blk_far ?_ NB702_743.out _; (with_reducible repeat (first | apply lN_ | apply lD_ | apply lA_)); refine blk_far ?_ NB702_743.out _; (with_reducible repeat (first | apply lN_ | apply lD_ | apply lA_)); refine blk_far ?_ NB702_743.out _; (with_reducible repeat (first | apply lN_ | apply lD_ | apply lA_)); exact BK702.out) hb); have n19_ := Aside0.mk (blk_below (g := gb743) (o := .cells #[.slice Ao123 t733.length co123, .slice Ao129 t736.length co129, .slice Ao130 t739.length co130] 35 (0, 0)) (by (with_reducible repeat (first | apply lN_ | apply lD_ | apply lA_)); refine blk_put (cs := #[.slice Ao123 t733.length co123, .slice Ao129 t736.length co129, .slice none 0 0]) ?_ 2 _ rfl; (with_reducible repeat (first | apply lN_ | apply lD_ | apply lA_)); refine blk_put (cs := #[.slice Ao123 t733.length co123, .slice none 0 0, .slice none 0 0]) ?_ 1 _ rfl; (with_reducible repeat (first | apply lN_ | apply lD_ | apply lA_)); refine blk_put (cs := #[.slice none 0 0, .slice none 0 0, .slice none 0 0]) ?_ 0 _ rfl; (with_reducible repeat (first | apply lN_ | apply lD_ | apply lA_)); exact BK743.out) hb); have n20_ := Aside0.mk (below_step (by repeat (first | (with_reducible first | exact HB.out | apply bA_ | apply bN_ | apply bD_ | refine bS_ ?_ GE660.out | refine bS_ ?_ GE681.out | refine bS_ ?_ GE691.out | refine bS_ ?_ GE702.out | refine bS_ ?_ GE743.out) | exact HB.out)) hb); clear HO_682000; clear HO_682001; clear HO_682002; clear HO_692000; clear HO_692001; clear HO_692002; clear HO_703000; clear HO_703001; clear HO_703002; clear HO726; clear HO729; clear HO732; clear HO735; clear HO738; clear HO741; clear BK660; clear BK681; clear BK691; clear BK702; clear BK743; clear HB; have HO_682000 := n0_; have HO_682001 := n1_; have HO_682002 := n2_; have HO_692000 := n3_; have HO_692001 := n4_; have HO_692002 := n5_; have HO_703000 := n6_; have HO_703001 := n7_; have HO_703002 := n8_; have HO726 := n9_; have HO729 := n10_; have HO732 := n11_; have HO735 := n12_; have HO738 := n13_; have HO741 := n14_; have BK660 := n15_; have BK681 := n16_; have BK691 := n17_; have BK702 := n18_; have BK743 := n19_; have HB := n20_; clear n0_ n1_ n2_ n3_ n4_ n5_ n6_ n7_ n8_ n9_ n10_ n11_ n12_ n13_ n14_ n15_ n16_ n17_ n18_ n19_ n20_; (try clear hb); (try clear hb2); (try clear hk); (try clear hi)))
             go_meet
             case rel => exact ⟨_, ((t742 != t680)), (by first | rfl | (simp; done) | (simp [*]; done)), H', ⟨by have := HJ10.out; have := HJ67.out; first | omega | exact Nat.le_refl _⟩, ⟨by (try simp only [hl692000_67]); (try simp only [hl692001_67]); (try simp only [hl692002_67]); (with_reducible repeat (first | apply rA_ | apply rN_ | apply rD_)); exact Kd.R_mono HO_682000.out (fun _ hk => ⟨hk.1.1.1, ⟨hk.1.1.2, hk.2⟩⟩)⟩, ⟨by (try simp only [hl692000_67]); (try simp only [hl692001_67]); (try simp only [hl692002_67]); (with_reducible repeat (first | apply rA_ | apply rN_ | apply rD_)); exact Kd.R_mono HO_682001.out (fun _ hk => ⟨hk.1.1.1.1.1, ⟨hk.1.1.1.1.2.1, ⟨hk.1.1.1.1.2.2.1, ⟨hk.1.1.1.1.2.2.2.1, ⟨hk.1.1.1.1.2.2.2.2, ⟨hk.1.2, hk.2⟩⟩⟩⟩⟩⟩)⟩, ⟨by (try simp only [hl692000_67]); (try simp only [hl692001_67]); (try simp only [hl692002_67]); (with_reducible repeat (first | apply rA_ | apply rN_ | apply rD_)); exact Kd.R_mono HO_682002.out (fun _ hk => ⟨hk.1.1.1.1.1, ⟨hk.1.1.1.1.2.1, ⟨hk.1.1.1.1.2.2.1, ⟨hk.1.1.1.1.2.2.2.1, ⟨hk.1.1.1.1.2.2.2.2, ⟨hk.1.2, hk.2⟩⟩⟩⟩⟩⟩)⟩, ⟨by (try simp only [hl692000_67]); (try simp only [hl692001_67]); (try simp only [hl692002_67]); (with_reducible repeat (first | apply rA_ | apply rN_ | apply rD_)); exact Kd.R_mono HO_692000.out (fun _ hk => ⟨hk.1.1.1, ⟨hk.1.1.2, hk.2⟩⟩)⟩, ⟨by (try simp only [hl692000_67]); (try simp only [hl692001_67]); (try simp only [hl692002_67]); (with_reducible repeat (first | apply rA_ | apply rN_ | apply rD_)); exact Kd.R_mono HO_692001.out (fun _ hk => ⟨hk.1.1.1.1.1, ⟨hk.1.1.1.1.2.1, ⟨hk.1.1.1.1.2.2.1, ⟨hk.1.1.1.1.2.2.2.1, ⟨hk.1.1.1.1.2.2.2.2, ⟨hk.1.2, hk.2⟩⟩⟩⟩⟩⟩)⟩, ⟨by (try simp only [hl692000_67]); (try simp only [hl692001_67]); (try simp only [hl692002_67]); (with_reducible repeat (first | apply rA_ | apply rN_ | apply rD_)); exact Kd.R_mono HO_692002.out (fun _ hk => ⟨hk.1.1.1.1.1, ⟨hk.1.1.1.1.2.1, ⟨hk.1.1.1.1.2.2.1, ⟨hk.1.1.1.1.2.2.2.1, ⟨hk.1.1.1.1.2.2.2.2, ⟨hk.1.2, hk.2⟩⟩⟩⟩⟩⟩)⟩, ⟨by (try simp only [hl692000_67]); (try simp only [hl692001_67]); (try simp only [hl692002_67]); (with_reducible repeat (first | apply rA_ | apply rN_ | apply rD_)); exact Kd.R_mono HO_703000.out (fun _ hk => ⟨hk.1.1.1, ⟨hk.1.1.2, hk.2⟩⟩)⟩, ⟨by (try simp only [hl692000_67]); (try simp only [hl692001_67]); (try simp only [hl692002_67]); (with_reducible repeat (first | apply rA_ | apply rN_ | apply rD_)); exact Kd.R_mono HO_703001.out (fun _ hk => ⟨hk.1.1.1.1.1, ⟨hk.1.1.1.1.2.1, ⟨hk.1.1.1.1.2.2.1, ⟨hk.1.1.1.1.2.2.2.1, ⟨hk.1.1.1.1.2.2.2.2, ⟨hk.1.2, hk.2⟩⟩⟩⟩⟩⟩)⟩, ⟨by (try simp only [hl692000_67]); (try simp only [hl692001_67]); (try simp only [hl692002_67]); (with_reducible repeat (first | apply rA_ | apply rN_ | apply rD_)); exact Kd.R_mono HO_703002.out (fun _ hk => ⟨hk.1.1.1.1.1, ⟨hk.1.1.1.1.2.1, ⟨hk.1.1.1.1.2.2.1, ⟨hk.1.1.1.1.2.2.2.1, ⟨hk.1.1.1.1.2.2.2.2, ⟨hk.1.2, hk.2⟩⟩⟩⟩⟩⟩)⟩, ⟨by (try simp only [hl692000_67]); (try simp only [hl692001_67]); (try simp only [hl692002_67]); (with_reducible repeat (first | apply rA_ | apply rN_ | apply rD_)); exact Kd.R_mono HO735.out (fun _ hk => ⟨hk.1.1.1.2, ⟨hk.1.1.2, hk.1.2⟩⟩)⟩, ⟨by (try simp only [hl692000_67]); (try simp only [hl692001_67]); (try simp only [hl692002_67]); (with_reducible repeat (first | apply rA_ | apply rN_ | apply rD_)); exact Kd.R_mono HO738.out (fun _ hk => ⟨hk.1.1.1.1.1.1.1.2, ⟨hk.1.1.1.1.1.1.2, ⟨hk.1.1.1.1.1.2, ⟨hk.1.1.1.1.2, ⟨hk.1.1.1.2, ⟨hk.1.1.2, hk.1.1.1.1.1.1.1.1⟩⟩⟩⟩⟩⟩)⟩, ⟨by (try simp only [hl692000_67]); (try simp only [hl692001_67]); (try simp only [hl692002_67]); (with_reducible repeat (first | apply rA_ | apply rN_ | apply rD_)); exact Kd.R_mono HO741.out (fun _ hk => ⟨hk.1.1.1.1.1.1.1.2, ⟨hk.1.1.1.1.1.1.2, ⟨hk.1.1.1.1.1.2, ⟨hk.1.1.1.1.2, ⟨hk.1.1.1.2, ⟨hk.1.1.2, hk.1.1.1.1.1.1.1.1⟩⟩⟩⟩⟩⟩)⟩, ⟨by (try simp only [hl692000_67]); (try simp only [hl692001_67]); (try simp only [hl692002_67]); (with_reducible repeat (first | apply lN_ | apply lD_ | apply lA_)); exact BK660.out⟩, ⟨by (try simp only [hl692000_67]); (try simp only [hl692001_67]); (try simp only [hl692002_67]); (with_reducible repeat (first | apply lN_ | apply lD_ | apply lA_)); exact BK681.out⟩, ⟨by (try simp only [hl692000_67]); (try simp only [hl692001_67]); (try simp only [hl692002_67]); (with_reducible repeat (first | apply lN_ | apply lD_ | apply lA_)); exact BK691.out⟩, ⟨by (try simp only [hl692000_67]); (try simp only [hl692001_67]); (try simp only [hl692002_67]); (with_reducible repeat (first | apply lN_ | apply lD_ | apply lA_)); exact BK702.out⟩, ⟨by (try simp only [hl692000_67]); (try simp only [hl692001_67]); (try simp only [hl692002_67]); (with_reducible repeat (first | apply lN_ | apply lD_ | apply lA_)); exact BK743.out⟩, ⟨by repeat (first | (with_reducible first | exact HB.out | apply bA_ | apply bN_ | apply bD_ | refine bS_ ?_ GE660.out | refine bS_ ?_ GE681.out | refine bS_ ?_ GE691.out | refine bS_ ?_ GE702.out | refine bS_ ?_ GE743.out) | exact HB.out)⟩⟩
            ·replace c132 := Bool.eq_false_iff.mpr c132
             subst c132
             have H1 : (laws_FnExactRedoEdit.j2 kj67 t719 true t720 t721 t722) = some r := by rw [if_neg (show ¬ (false = true) by decide)] at H; exact H
             clear H
             have H := H1
             clear H1
             have H' := Aside0.mk H
             clear H
             have hnb143 := NB743_660.out
             have hnc143 := NB660_743.out
             have hnb144 := NB743_681.out
             have hnc144 := NB681_743.out
             have hnb145 := NB743_691.out
             have hnc145 := NB691_743.out
             have hnb146 := NB743_702.out
             have hnc146 := NB702_743.out
             have hcz147_0 : w122.cell? ⟨gb743, 0, none⟩ = some (.slice none 0 0) := (blk_cell BK743.out 0).trans rfl
             have hcz147_1 : w122.cell? ⟨gb743, 1, none⟩ = some (.slice none 0 0) := (blk_cell BK743.out 1).trans rfl
             have hcz147_2 : w122.cell? ⟨gb743, 2, none⟩ = some (.slice none 0 0) := (blk_cell BK743.out 2).trans rfl
             have hfz147_0 := blk_frozen BK743.out 0
             have hfz147_1 := blk_frozen BK743.out 1
             have hfz147_2 := blk_frozen BK743.out 2
             have hnb148 := NB681_660.out
             have hnc148 := NB660_681.out
             have hnb149 := NB681_691.out
             have hnc149 := NB691_681.out
             have hnb150 := NB681_702.out
             have hnc150 := NB702_681.out
             have hcz151_0 : w122.cell? ⟨gb681, 0, none⟩ = some (.slice Ao22 t671.length co22) := (blk_cell BK681.out 0).trans rfl
             have hcz151_1 : w122.cell? ⟨gb681, 1, none⟩ = some (.slice Ao25 t674.length co25) := (blk_cell BK681.out 1).trans rfl
             have hcz151_2 : w122.cell? ⟨gb681, 2, none⟩ = some (.slice Ao26 t677.length co26) := (blk_cell BK681.out 2).trans rfl
             have hfz151_0 := blk_frozen BK681.out 0
             have hfz151_1 := blk_frozen BK681.out 1
             have hfz151_2 := blk_frozen BK681.out 2
             go_wp2_with (first | ((with_reducible refine gate_callee (f := 23) rfl ?_); refine goesL_ (some 81) rfl rfl Try.func23 (by kernel_rfl) rfl #[.agg #[.slice Ao123 t733.length co123, .slice Ao129 t736.length co129, .slice Ao130 t739.length co130], .agg #[.slice Ao22 t671.length co22, .slice Ao25 t674.length co25, .slice Ao26 t677.length co26]] rfl args_ ?_; (with_reducible refine (laws_eqDesk.calls kj67 _ _ t733 _ _ t736 _ _ t739 _ _ t671 _ _ t674 _ _ t677 false _ ?side1 ?side2 ?side3 ?side4 ?side5 ?side6 ?side7 ?side8 ?side9 ?side10 ?side11 ?side12 A131.out).mono ?_); (case side1 => refine (Kd.R_reads' (e := 9) (base := w.heap.size) (ok := fun k_ => ((((True ∧ some k_ ≠ (.slice Ao22 t671.length co22 : Value).ownBlock) ∧ some k_ ≠ (.slice Ao30 t715.length co30 : Value).ownBlock) ∧ some k_ ≠ (.slice Ao38 t692.length co38 : Value).ownBlock) ∧ some k_ ≠ (.slice Ao118 t724.length co118 : Value).ownBlock)) (n := t733.length) (c := co123) ?_).2.2; exact (rf_ (fm_ (fr_ (fr_ (fr_ (ft_ HO735 BK743) 0 (.slice Ao123 t733.length co123)) 1 (.slice Ao129 t736.length co129)) 2 (.slice Ao130 t739.length co130))))); (case side2 => exact (Kd.R_reads' HO735.out).2.1); (case side3 => refine (Kd.R_reads' (e := 25) (base := w.heap.size) (ok := fun k_ => ((((((((some k_ ≠ (.slice Ao130 t739.length co130 : Value).ownBlock ∧ some k_ ≠ (.slice Ao25 t674.length co25 : Value).ownBlock) ∧ some k_ ≠ (.slice Ao26 t677.length co26 : Value).ownBlock) ∧ some k_ ≠ (.slice Ao34 t716.length co34 : Value).ownBlock) ∧ some k_ ≠ (.slice Ao35 t717.length co35 : Value).ownBlock) ∧ some k_ ≠ (.slice Ao43 t695.length co43 : Value).ownBlock) ∧ some k_ ≠ (.slice Ao44 t698.length co44 : Value).ownBlock) ∧ some k_ ≠ (.slice Ao119 t727.length co119 : Value).ownBlock) ∧ some k_ ≠ (.slice Ao120 t730.length co120 : Value).ownBlock)) (n := t736.length) (c := co129) ?_).2.2; exact (rf_ (fm_ (fr_ (fr_ (fr_ (ft_ HO738 BK743) 0 (.slice Ao123 t733.length co123)) 1 (.slice Ao129 t736.length co129)) 2 (.slice Ao130 t739.length co130))))); (case side4 => exact (Kd.R_reads' HO738.out).2.1); (case side5 => refine (Kd.R_reads' (e := 25) (base := w.heap.size) (ok := fun k_ => ((((((((some k_ ≠ (.slice Ao129 t736.length co129 : Value).ownBlock ∧ some k_ ≠ (.slice Ao25 t674.length co25 : Value).ownBlock) ∧ some k_ ≠ (.slice Ao26 t677.length co26 : Value).ownBlock) ∧ some k_ ≠ (.slice Ao34 t716.length co34 : Value).ownBlock) ∧ some k_ ≠ (.slice Ao35 t717.length co35 : Value).ownBlock) ∧ some k_ ≠ (.slice Ao43 t695.length co43 : Value).ownBlock) ∧ some k_ ≠ (.slice Ao44 t698.length co44 : Value).ownBlock) ∧ some k_ ≠ (.slice Ao119 t727.length co119 : Value).ownBlock) ∧ some k_ ≠ (.slice Ao120 t730.length co120 : Value).ownBlock)) (n := t739.length) (c := co130) ?_).2.2; exact (rf_ (fm_ (fr_ (fr_ (fr_ (ft_ HO741 BK743) 0 (.slice Ao123 t733.length co123)) 1 (.slice Ao129 t736.length co129)) 2 (.slice Ao130 t739.length co130))))); (case side6 => exact (Kd.R_reads' HO741.out).2.1); (case side7 => refine (Kd.R_reads' (e := 9) (base := w.heap.size) (ok := fun k_ => (((some k_ ≠ (.slice Ao30 t715.length co30 : Value).ownBlock ∧ some k_ ≠ (.slice Ao38 t692.length co38 : Value).ownBlock) ∧ some k_ ≠ (.slice Ao118 t724.length co118 : Value).ownBlock) ∧ some k_ ≠ (.slice Ao123 t733.length co123 : Value).ownBlock)) (n := t671.length) (c := co22) ?_).2.2; exact (rf_ (fm_ (fr_ (fr_ (fr_ (ft_ HO_682000 BK743) 0 (.slice Ao123 t733.length co123)) 1 (.slice Ao129 t736.length co129)) 2 (.slice Ao130 t739.length co130))))); (case side8 => exact (Kd.R_reads' HO_682000.out).2.1); (case side9 => refine (Kd.R_reads' (e := 25) (base := w.heap.size) (ok := fun k_ => (((((some k_ ≠ (.slice Ao26 t677.length co26 : Value).ownBlock ∧ (some k_ ≠ (.slice Ao34 t716.length co34 : Value).ownBlock ∧ (some k_ ≠ (.slice Ao35 t717.length co35 : Value).ownBlock ∧ (some k_ ≠ (.slice Ao43 t695.length co43 : Value).ownBlock ∧ some k_ ≠ (.slice Ao44 t698.length co44 : Value).ownBlock)))) ∧ some k_ ≠ (.slice Ao119 t727.length co119 : Value).ownBlock) ∧ some k_ ≠ (.slice Ao120 t730.length co120 : Value).ownBlock) ∧ some k_ ≠ (.slice Ao129 t736.length co129 : Value).ownBlock) ∧ some k_ ≠ (.slice Ao130 t739.length co130 : Value).ownBlock)) (n := t674.length) (c := co25) ?_).2.2; exact (rf_ (fm_ (fr_ (fr_ (fr_ (ft_ HO_682001 BK743) 0 (.slice Ao123 t733.length co123)) 1 (.slice Ao129 t736.length co129)) 2 (.slice Ao130 t739.length co130))))); (case side10 => exact (Kd.R_reads' HO_682001.out).2.1); (case side11 => refine (Kd.R_reads' (e := 25) (base := w.heap.size) (ok := fun k_ => (((((some k_ ≠ (.slice Ao25 t674.length co25 : Value).ownBlock ∧ (some k_ ≠ (.slice Ao34 t716.length co34 : Value).ownBlock ∧ (some k_ ≠ (.slice Ao35 t717.length co35 : Value).ownBlock ∧ (some k_ ≠ (.slice Ao43 t695.length co43 : Value).ownBlock ∧ some k_ ≠ (.slice Ao44 t698.length co44 : Value).ownBlock)))) ∧ some k_ ≠ (.slice Ao119 t727.length co119 : Value).ownBlock) ∧ some k_ ≠ (.slice Ao120 t730.length co120 : Value).ownBlock) ∧ some k_ ≠ (.slice Ao129 t736.length co129 : Value).ownBlock) ∧ some k_ ≠ (.slice Ao130 t739.length co130 : Value).ownBlock)) (n := t677.length) (c := co26) ?_).2.2; exact (rf_ (fm_ (fr_ (fr_ (fr_ (ft_ HO_682002 BK743) 0 (.slice Ao123 t733.length co123)) 1 (.slice Ao129 t736.length co129)) 2 (.slice Ao130 t739.length co130))))); (case side12 => exact (Kd.R_reads' HO_682002.out).2.1); rintro e w152 ⟨rfl, hb⟩; refine ⟨_, rfl, ?_⟩; have n0_ := Aside0.mk (Kd.R_below (rf_ (fm_ (fr_ (fr_ (fr_ (ft_ HO_682000 BK743) 0 (.slice Ao123 t733.length co123)) 1 (.slice Ao129 t736.length co129)) 2 (.slice Ao130 t739.length co130)))) hb); have n1_ := Aside0.mk (Kd.R_below (rf_ (fm_ (fr_ (fr_ (fr_ (ft_ HO_682001 BK743) 0 (.slice Ao123 t733.length co123)) 1 (.slice Ao129 t736.length co129)) 2 (.slice Ao130 t739.length co130)))) hb); have n2_ := Aside0.mk (Kd.R_below (rf_ (fm_ (fr_ (fr_ (fr_ (ft_ HO_682002 BK743) 0 (.slice Ao123 t733.length co123)) 1 (.slice Ao129 t736.length co129)) 2 (.slice Ao130 t739.length co130)))) hb); have n3_ := Aside0.mk (Kd.R_below (rf_ (fm_ (fr_ (fr_ (fr_ (ft_ HO_692000 BK743) 0 (.slice Ao123 t733.length co123)) 1 (.slice Ao129 t736.length co129)) 2 (.slice Ao130 t739.length co130)))) hb); have n4_ := Aside0.mk (Kd.R_below (rf_ (fm_ (fr_ (fr_ (fr_ (ft_ HO_692001 BK743) 0 (.slice Ao123 t733.length co123)) 1 (.slice Ao129 t736.length co129)) 2 (.slice Ao130 t739.length co130)))) hb); have n5_ := Aside0.mk (Kd.R_below (rf_ (fm_ (fr_ (fr_ (fr_ (ft_ HO_692002 BK743) 0 (.slice Ao123 t733.length co123)) 1 (.slice Ao129 t736.length co129)) 2 (.slice Ao130 t739.length co130)))) hb); have n6_ := Aside0.mk (Kd.R_below (rf_ (fm_ (fr_ (fr_ (fr_ (ft_ HO_703000 BK743) 0 (.slice Ao123 t733.length co123)) 1 (.slice Ao129 t736.length co129)) 2 (.slice Ao130 t739.length co130)))) hb); have n7_ := Aside0.mk (Kd.R_below (rf_ (fm_ (fr_ (fr_ (fr_ (ft_ HO_703001 BK743) 0 (.slice Ao123 t733.length co123)) 1 (.slice Ao129 t736.length co129)) 2 (.slice Ao130 t739.length co130)))) hb); have n8_ := Aside0.mk (Kd.R_below (rf_ (fm_ (fr_ (fr_ (fr_ (ft_ HO_703002 BK743) 0 (.slice Ao123 t733.length co123)) 1 (.slice Ao129 t736.length co129)) 2 (.slice Ao130 t739.length co130)))) hb); have n9_ := Aside0.mk (Kd.R_below (rf_ (fm_ (fr_ (fr_ (fr_ (ft_ HO726 BK743) 0 (.slice Ao123 t733.length co123)) 1 (.slice Ao129 t736.length co129)) 2 (.slice Ao130 t739.length co130)))) hb); have n10_ := Aside0.mk (Kd.R_below (rf_ (fm_ (fr_ (fr_ (fr_ (ft_ HO729 BK743) 0 (.slice Ao123 t733.length co123)) 1 (.slice Ao129 t736.length co129)) 2 (.slice Ao130 t739.length co130)))) hb); have n11_ := Aside0.mk (Kd.R_below (rf_ (fm_ (fr_ (fr_ (fr_ (ft_ HO732 BK743) 0 (.slice Ao123 t733.length co123)) 1 (.slice Ao129 t736.length co129)) 2 (.slice Ao130 t739.length co130)))) hb); have n12_ := Aside0.mk (Kd.R_below (rf_ (fm_ (fr_ (fr_ (fr_ (ft_ HO735 BK743) 0 (.slice Ao123 t733.length co123)) 1 (.slice Ao129 t736.length co129)) 2 (.slice Ao130 t739.length co130)))) hb); have n13_ := Aside0.mk (Kd.R_below (rf_ (fm_ (fr_ (fr_ (fr_ (ft_ HO738 BK743) 0 (.slice Ao123 t733.length co123)) 1 (.slice Ao129 t736.length co129)) 2 (.slice Ao130 t739.length co130)))) hb); have n14_ := Aside0.mk (Kd.R_below (rf_ (fm_ (fr_ (fr_ (fr_ (ft_ HO741 BK743) 0 (.slice Ao123 t733.length co123)) 1 (.slice Ao129 t736.length co129)) 2 (.slice Ao130 t739.length co130)))) hb); have n15_ := Aside0.mk (blk_below (g := gb660) (o := .cells #[.slice A0_0 l0_0.length c0_0, .slice A0_1 l0_1.length c0_1, .slice A0_2 l0_2.length c0_2] 45 (0, 0)) (by (with_reducible repeat (first | apply lN_ | apply lD_ | apply lA_)); refine blk_far ?_ NB660_743.out _; (with_reducible repeat (first | apply lN_ | apply lD_ | apply lA_)); refine blk_far ?_ NB660_743.out _; (with_reducible repeat (first | apply lN_ | apply lD_ | apply lA_)); refine blk_far ?_ NB660_743.out _; (with_reducible repeat (first | apply lN_ | apply lD_ | apply lA_)); exact BK660.out) hb); have n16_ := Aside0.mk (blk_below (g := gb681) (o := .cells #[.slice Ao22 t671.length co22, .slice Ao25 t674.length co25, .slice Ao26 t677.length co26] 35 (0, 0)) (by (with_reducible repeat (first | apply lN_ | apply lD_ | apply lA_)); refine blk_far ?_ NB681_743.out _; (with_reducible repeat (first | apply lN_ | apply lD_ | apply lA_)); refine blk_far ?_ NB681_743.out _; (with_reducible repeat (first | apply lN_ | apply lD_ | apply lA_)); refine blk_far ?_ NB681_743.out _; (with_reducible repeat (first | apply lN_ | apply lD_ | apply lA_)); exact BK681.out) hb); have n17_ := Aside0.mk (blk_below (g := gb691) (o := .cells #[.slice Ao30 t715.length co30, .slice Ao34 t716.length co34, .slice Ao35 t717.length co35] 35 (0, 0)) (by (with_reducible repeat (first | apply lN_ | apply lD_ | apply lA_)); refine blk_far ?_ NB691_743.out _; (with_reducible repeat (first | apply lN_ | apply lD_ | apply lA_)); refine blk_far ?_ NB691_743.out _; (with_reducible repeat (first | apply lN_ | apply lD_ | apply lA_)); refine blk_far ?_ NB691_743.out _; (with_reducible repeat (first | apply lN_ | apply lD_ | apply lA_)); exact BK691.out) hb); have n18_ := Aside0.mk (blk_below (g := gb702) (o := .cells #[.slice Ao38 t692.length co38, .slice Ao43 t695.length co43, .slice Ao44 t698.length co44] 35 (0, 0)) (by (with_reducible repeat (first | apply lN_ | apply lD_ | apply lA_)); refine blk_far ?_ NB702_743.out _; (with_reducible repeat (first | apply lN_ | apply lD_ | apply lA_)); refine blk_far ?_ NB702_743.out _; (with_reducible repeat (first | apply lN_ | apply lD_ | apply lA_)); refine blk_far ?_ NB702_743.out _; (with_reducible repeat (first | apply lN_ | apply lD_ | apply lA_)); exact BK702.out) hb); have n19_ := Aside0.mk (blk_below (g := gb743) (o := .cells #[.slice Ao123 t733.length co123, .slice Ao129 t736.length co129, .slice Ao130 t739.length co130] 35 (0, 0)) (by (with_reducible repeat (first | apply lN_ | apply lD_ | apply lA_)); refine blk_put (cs := #[.slice Ao123 t733.length co123, .slice Ao129 t736.length co129, .slice none 0 0]) ?_ 2 _ rfl; (with_reducible repeat (first | apply lN_ | apply lD_ | apply lA_)); refine blk_put (cs := #[.slice Ao123 t733.length co123, .slice none 0 0, .slice none 0 0]) ?_ 1 _ rfl; (with_reducible repeat (first | apply lN_ | apply lD_ | apply lA_)); refine blk_put (cs := #[.slice none 0 0, .slice none 0 0, .slice none 0 0]) ?_ 0 _ rfl; (with_reducible repeat (first | apply lN_ | apply lD_ | apply lA_)); exact BK743.out) hb); have n20_ := Aside0.mk (below_step (by repeat (first | (with_reducible first | exact HB.out | apply bA_ | apply bN_ | apply bD_ | refine bS_ ?_ GE660.out | refine bS_ ?_ GE681.out | refine bS_ ?_ GE691.out | refine bS_ ?_ GE702.out | refine bS_ ?_ GE743.out) | exact HB.out)) hb); clear HO_682000; clear HO_682001; clear HO_682002; clear HO_692000; clear HO_692001; clear HO_692002; clear HO_703000; clear HO_703001; clear HO_703002; clear HO726; clear HO729; clear HO732; clear HO735; clear HO738; clear HO741; clear BK660; clear BK681; clear BK691; clear BK702; clear BK743; clear HB; have HO_682000 := n0_; have HO_682001 := n1_; have HO_682002 := n2_; have HO_692000 := n3_; have HO_692001 := n4_; have HO_692002 := n5_; have HO_703000 := n6_; have HO_703001 := n7_; have HO_703002 := n8_; have HO726 := n9_; have HO729 := n10_; have HO732 := n11_; have HO735 := n12_; have HO738 := n13_; have HO741 := n14_; have BK660 := n15_; have BK681 := n16_; have BK691 := n17_; have BK702 := n18_; have BK743 := n19_; have HB := n20_; clear n0_ n1_ n2_ n3_ n4_ n5_ n6_ n7_ n8_ n9_ n10_ n11_ n12_ n13_ n14_ n15_ n16_ n17_ n18_ n19_ n20_; (try clear hb); (try clear hb2); (try clear hk); (try clear hi)))
             go_meet
             case rel => exact ⟨_, (true), (by first | rfl | (simp; done) | (simp [*]; done)), H', ⟨by have := HJ10.out; have := HJ67.out; first | omega | exact Nat.le_refl _⟩, ⟨by (try simp only [hl692000_67]); (try simp only [hl692001_67]); (try simp only [hl692002_67]); (with_reducible repeat (first | apply rA_ | apply rN_ | apply rD_)); exact Kd.R_mono HO_682000.out (fun _ hk => ⟨hk.1.1.1, ⟨hk.1.1.2, hk.2⟩⟩)⟩, ⟨by (try simp only [hl692000_67]); (try simp only [hl692001_67]); (try simp only [hl692002_67]); (with_reducible repeat (first | apply rA_ | apply rN_ | apply rD_)); exact Kd.R_mono HO_682001.out (fun _ hk => ⟨hk.1.1.1.1.1, ⟨hk.1.1.1.1.2.1, ⟨hk.1.1.1.1.2.2.1, ⟨hk.1.1.1.1.2.2.2.1, ⟨hk.1.1.1.1.2.2.2.2, ⟨hk.1.2, hk.2⟩⟩⟩⟩⟩⟩)⟩, ⟨by (try simp only [hl692000_67]); (try simp only [hl692001_67]); (try simp only [hl692002_67]); (with_reducible repeat (first | apply rA_ | apply rN_ | apply rD_)); exact Kd.R_mono HO_682002.out (fun _ hk => ⟨hk.1.1.1.1.1, ⟨hk.1.1.1.1.2.1, ⟨hk.1.1.1.1.2.2.1, ⟨hk.1.1.1.1.2.2.2.1, ⟨hk.1.1.1.1.2.2.2.2, ⟨hk.1.2, hk.2⟩⟩⟩⟩⟩⟩)⟩, ⟨by (try simp only [hl692000_67]); (try simp only [hl692001_67]); (try simp only [hl692002_67]); (with_reducible repeat (first | apply rA_ | apply rN_ | apply rD_)); exact Kd.R_mono HO_692000.out (fun _ hk => ⟨hk.1.1.1, ⟨hk.1.1.2, hk.2⟩⟩)⟩, ⟨by (try simp only [hl692000_67]); (try simp only [hl692001_67]); (try simp only [hl692002_67]); (with_reducible repeat (first | apply rA_ | apply rN_ | apply rD_)); exact Kd.R_mono HO_692001.out (fun _ hk => ⟨hk.1.1.1.1.1, ⟨hk.1.1.1.1.2.1, ⟨hk.1.1.1.1.2.2.1, ⟨hk.1.1.1.1.2.2.2.1, ⟨hk.1.1.1.1.2.2.2.2, ⟨hk.1.2, hk.2⟩⟩⟩⟩⟩⟩)⟩, ⟨by (try simp only [hl692000_67]); (try simp only [hl692001_67]); (try simp only [hl692002_67]); (with_reducible repeat (first | apply rA_ | apply rN_ | apply rD_)); exact Kd.R_mono HO_692002.out (fun _ hk => ⟨hk.1.1.1.1.1, ⟨hk.1.1.1.1.2.1, ⟨hk.1.1.1.1.2.2.1, ⟨hk.1.1.1.1.2.2.2.1, ⟨hk.1.1.1.1.2.2.2.2, ⟨hk.1.2, hk.2⟩⟩⟩⟩⟩⟩)⟩, ⟨by (try simp only [hl692000_67]); (try simp only [hl692001_67]); (try simp only [hl692002_67]); (with_reducible repeat (first | apply rA_ | apply rN_ | apply rD_)); exact Kd.R_mono HO_703000.out (fun _ hk => ⟨hk.1.1.1, ⟨hk.1.1.2, hk.2⟩⟩)⟩, ⟨by (try simp only [hl692000_67]); (try simp only [hl692001_67]); (try simp only [hl692002_67]); (with_reducible repeat (first | apply rA_ | apply rN_ | apply rD_)); exact Kd.R_mono HO_703001.out (fun _ hk => ⟨hk.1.1.1.1.1, ⟨hk.1.1.1.1.2.1, ⟨hk.1.1.1.1.2.2.1, ⟨hk.1.1.1.1.2.2.2.1, ⟨hk.1.1.1.1.2.2.2.2, ⟨hk.1.2, hk.2⟩⟩⟩⟩⟩⟩)⟩, ⟨by (try simp only [hl692000_67]); (try simp only [hl692001_67]); (try simp only [hl692002_67]); (with_reducible repeat (first | apply rA_ | apply rN_ | apply rD_)); exact Kd.R_mono HO_703002.out (fun _ hk => ⟨hk.1.1.1.1.1, ⟨hk.1.1.1.1.2.1, ⟨hk.1.1.1.1.2.2.1, ⟨hk.1.1.1.1.2.2.2.1, ⟨hk.1.1.1.1.2.2.2.2, ⟨hk.1.2, hk.2⟩⟩⟩⟩⟩⟩)⟩, ⟨by (try simp only [hl692000_67]); (try simp only [hl692001_67]); (try simp only [hl692002_67]); (with_reducible repeat (first | apply rA_ | apply rN_ | apply rD_)); exact Kd.R_mono HO735.out (fun _ hk => ⟨hk.1.1.1.2, ⟨hk.1.1.2, hk.1.2⟩⟩)⟩, ⟨by (try simp only [hl692000_67]); (try simp only [hl692001_67]); (try simp only [hl692002_67]); (with_reducible repeat (first | apply rA_ | apply rN_ | apply rD_)); exact Kd.R_mono HO738.out (fun _ hk => ⟨hk.1.1.1.1.1.1.1.2, ⟨hk.1.1.1.1.1.1.2, ⟨hk.1.1.1.1.1.2, ⟨hk.1.1.1.1.2, ⟨hk.1.1.1.2, ⟨hk.1.1.2, hk.1.1.1.1.1.1.1.1⟩⟩⟩⟩⟩⟩)⟩, ⟨by (try simp only [hl692000_67]); (try simp only [hl692001_67]); (try simp only [hl692002_67]); (with_reducible repeat (first | apply rA_ | apply rN_ | apply rD_)); exact Kd.R_mono HO741.out (fun _ hk => ⟨hk.1.1.1.1.1.1.1.2, ⟨hk.1.1.1.1.1.1.2, ⟨hk.1.1.1.1.1.2, ⟨hk.1.1.1.1.2, ⟨hk.1.1.1.2, ⟨hk.1.1.2, hk.1.1.1.1.1.1.1.1⟩⟩⟩⟩⟩⟩)⟩, ⟨by (try simp only [hl692000_67]); (try simp only [hl692001_67]); (try simp only [hl692002_67]); (with_reducible repeat (first | apply lN_ | apply lD_ | apply lA_)); exact BK660.out⟩, ⟨by (try simp only [hl692000_67]); (try simp only [hl692001_67]); (try simp only [hl692002_67]); (with_reducible repeat (first | apply lN_ | apply lD_ | apply lA_)); exact BK681.out⟩, ⟨by (try simp only [hl692000_67]); (try simp only [hl692001_67]); (try simp only [hl692002_67]); (with_reducible repeat (first | apply lN_ | apply lD_ | apply lA_)); exact BK691.out⟩, ⟨by (try simp only [hl692000_67]); (try simp only [hl692001_67]); (try simp only [hl692002_67]); (with_reducible repeat (first | apply lN_ | apply lD_ | apply lA_)); exact BK702.out⟩, ⟨by (try simp only [hl692000_67]); (try simp only [hl692001_67]); (try simp only [hl692002_67]); (with_reducible repeat (first | apply lN_ | apply lD_ | apply lA_)); exact BK743.out⟩, ⟨by repeat (first | (with_reducible first | exact HB.out | apply bA_ | apply bN_ | apply bD_ | refine bS_ ?_ GE660.out | refine bS_ ?_ GE681.out | refine bS_ ?_ GE691.out | refine bS_ ?_ GE702.out | refine bS_ ?_ GE743.out) | exact HB.out)⟩⟩
           case rest =>
            clear HC106
            try clear c1
            try clear c2
            try clear p2
            try clear c3
            try clear c3b0
            try clear c4
            try clear c5
            try clear c6
            try clear c7
            try clear c8
            try clear c9
            try clear c10
            try clear c11
            try clear c12
            try clear c13
            try clear c14
            try clear c15
            try clear c23
            try clear c26
            try clear c27
            try clear c28
            try clear c30
            try clear c31
            try clear c32
            try clear c37
            try clear c38
            try clear c39
            try clear c40
            try clear c41
            try clear c46
            try clear c47
            try clear c48
            try clear c49
            try clear c51
            try clear c52
            try clear c55
            try clear c56
            try clear c57
            try clear c59
            try clear c60
            try clear c63
            try clear c66
            try clear c75
            try clear c76
            try clear c77
            try clear c80
            try clear c80b0
            try clear c82
            try clear c83
            try clear c84
            try clear c85
            try clear c87
            try clear c88
            try clear c91
            try clear c92
            try clear c93
            try clear c95
            try clear c96
            try clear c99
            try clear c102
            try clear c102b0
            try clear c103
            try clear c103b0
            try clear c103b1
            try clear c107
            try clear c108
            try clear c109
            try clear c114
            try clear c115
            try clear c124
            try clear c125
            try clear c126
            try clear c127
            try clear c132
            try clear c133
            try clear c134
            try clear c135
            try clear c136
            try clear c138
            try clear c139
            try clear c140
            try clear c143
            try clear c144
            try clear c145
            try clear c146
            try clear c148
            try clear c149
            try clear c150
            try clear hcz110_0
            try clear hcz110_1
            try clear hcz110_2
            try clear hcz112_0
            try clear hcz112_1
            try clear hcz112_2
            try clear hcz116_0
            try clear hcz116_1
            try clear hcz116_2
            try clear hcz128_0
            try clear hcz128_1
            try clear hcz128_2
            try clear hcz137_0
            try clear hcz137_1
            try clear hcz137_2
            try clear hcz13_0
            try clear hcz13_1
            try clear hcz13_2
            try clear hcz141_0
            try clear hcz141_1
            try clear hcz141_2
            try clear hcz147_0
            try clear hcz147_1
            try clear hcz147_2
            try clear hcz151_0
            try clear hcz151_1
            try clear hcz151_2
            try clear hcz15_0
            try clear hcz15_1
            try clear hcz15_2
            try clear hcz24_0
            try clear hcz24_1
            try clear hcz24_2
            try clear hcz27_0
            try clear hcz27_1
            try clear hcz27_2
            try clear hcz33_0
            try clear hcz33_1
            try clear hcz33_2
            try clear hcz42_0
            try clear hcz42_1
            try clear hcz42_2
            try clear hcz50_0
            try clear hcz50_1
            try clear hcz50_2
            try clear hcz53_0
            try clear hcz53_1
            try clear hcz53_2
            try clear hcz58_0
            try clear hcz58_1
            try clear hcz58_2
            try clear hcz5_0
            try clear hcz5_1
            try clear hcz5_2
            try clear hcz61_0
            try clear hcz61_1
            try clear hcz61_2
            try clear hcz78_0
            try clear hcz78_1
            try clear hcz78_2
            try clear hcz86_0
            try clear hcz86_1
            try clear hcz86_2
            try clear hcz89_0
            try clear hcz89_1
            try clear hcz89_2
            try clear hcz94_0
            try clear hcz94_1
            try clear hcz94_2
            try clear hcz97_0
            try clear hcz97_1
            try clear hcz97_2
            try clear hfz110_0
            try clear hfz110_1
            try clear hfz110_2
            try clear hfz112_0
            try clear hfz112_1
            try clear hfz112_2
            try clear hfz116_0
            try clear hfz116_1
            try clear hfz116_2
            try clear hfz128_0
            try clear hfz128_1
            try clear hfz128_2
            try clear hfz137_0
            try clear hfz137_1
            try clear hfz137_2
            try clear hfz13_0
            try clear hfz13_1
            try clear hfz13_2
            try clear hfz141_0
            try clear hfz141_1
            try clear hfz141_2
            try clear hfz147_0
            try clear hfz147_1
            try clear hfz147_2
            try clear hfz151_0
            try clear hfz151_1
            try clear hfz151_2
            try clear hfz15_0
            try clear hfz15_1
            try clear hfz15_2
            try clear hfz24_0
            try clear hfz24_1
            try clear hfz24_2
            try clear hfz27_0
            try clear hfz27_1
            try clear hfz27_2
            try clear hfz33_0
            try clear hfz33_1
            try clear hfz33_2
            try clear hfz42_0
            try clear hfz42_1
            try clear hfz42_2
            try clear hfz50_0
            try clear hfz50_1
            try clear hfz50_2
            try clear hfz53_0
            try clear hfz53_1
            try clear hfz53_2
            try clear hfz58_0
            try clear hfz58_1
            try clear hfz58_2
            try clear hfz5_0
            try clear hfz5_1
            try clear hfz5_2
            try clear hfz61_0
            try clear hfz61_1
            try clear hfz61_2
            try clear hfz78_0
            try clear hfz78_1
            try clear hfz78_2
            try clear hfz86_0
            try clear hfz86_1
            try clear hfz86_2
            try clear hfz89_0
            try clear hfz89_1
            try clear hfz89_2
            try clear hfz94_0
            try clear hfz94_1
            try clear hfz94_2
            try clear hfz97_0
            try clear hfz97_1
            try clear hfz97_2
            try clear p2
            obtain ⟨kq, x87_105, rfl, HA, HJ105, HO_682000, HO_682001, HO_682002, HO_692000, HO_692001, HO_692002, HO_703000, HO_703001, HO_703002, HO_744000, HO_744001, HO_744002, BK660, BK681, BK691, BK702, BK743, HB⟩ := hcut
            have hl703000_105 := (Kd.R_reads' HO_703000.out).1
            rw [hl703000_105] at HO_703000
            (try simp only [hl703000_105])
            (try simp only [hl703000_105] at BK660)
            (try simp only [hl703000_105] at BK681)
            (try simp only [hl703000_105] at BK691)
            (try simp only [hl703000_105] at BK702)
            (try simp only [hl703000_105] at BK743)
            (try simp only [hl703000_105] at HO_682000)
            (try simp only [hl703000_105] at HO_682001)
            (try simp only [hl703000_105] at HO_682002)
            (try simp only [hl703000_105] at HO_692000)
            (try simp only [hl703000_105] at HO_692001)
            (try simp only [hl703000_105] at HO_692002)
            (try simp only [hl703000_105] at HO_703001)
            (try simp only [hl703000_105] at HO_703002)
            (try simp only [hl703000_105] at HO_744000)
            (try simp only [hl703000_105] at HO_744001)
            (try simp only [hl703000_105] at HO_744002)
            have hl703001_105 := (Kd.R_reads' HO_703001.out).1
            rw [hl703001_105] at HO_703001
            (try simp only [hl703001_105])
            (try simp only [hl703001_105] at BK660)
            (try simp only [hl703001_105] at BK681)
            (try simp only [hl703001_105] at BK691)
            (try simp only [hl703001_105] at BK702)
            (try simp only [hl703001_105] at BK743)
            (try simp only [hl703001_105] at HO_682000)
            (try simp only [hl703001_105] at HO_682001)
            (try simp only [hl703001_105] at HO_682002)
            (try simp only [hl703001_105] at HO_692000)
            (try simp only [hl703001_105] at HO_692001)
            (try simp only [hl703001_105] at HO_692002)
            (try simp only [hl703001_105] at HO_703000)
            (try simp only [hl703001_105] at HO_703002)
            (try simp only [hl703001_105] at HO_744000)
            (try simp only [hl703001_105] at HO_744001)
            (try simp only [hl703001_105] at HO_744002)
            have hl703002_105 := (Kd.R_reads' HO_703002.out).1
            rw [hl703002_105] at HO_703002
            (try simp only [hl703002_105])
            (try simp only [hl703002_105] at BK660)
            (try simp only [hl703002_105] at BK681)
            (try simp only [hl703002_105] at BK691)
            (try simp only [hl703002_105] at BK702)
            (try simp only [hl703002_105] at BK743)
            (try simp only [hl703002_105] at HO_682000)
            (try simp only [hl703002_105] at HO_682001)
            (try simp only [hl703002_105] at HO_682002)
            (try simp only [hl703002_105] at HO_692000)
            (try simp only [hl703002_105] at HO_692001)
            (try simp only [hl703002_105] at HO_692002)
            (try simp only [hl703002_105] at HO_703000)
            (try simp only [hl703002_105] at HO_703001)
            (try simp only [hl703002_105] at HO_744000)
            (try simp only [hl703002_105] at HO_744001)
            (try simp only [hl703002_105] at HO_744002)
            cases kq with
            | zero => exact absurd HA.out (by simp [laws_FnExactRedoEdit.j2])
            | succ kj105 =>
             have H := HA.out
             clear HA
             simp only [laws_FnExactRedoEdit.j2] at H
             by_cases c153 : x87_105 = true
             ·subst c153
              have H1 : (none) = some r := by rw [if_pos rfl] at H; exact H
              clear H
              have H := H1
              clear H1
              exact absurd H (by simp)
             ·replace c153 := Bool.eq_false_iff.mpr c153
              subst c153
              have H1 : ((laws_heldDesk.f kj105 t720 t721 t722 1).bind fun t745 => (if t745 < 0 then (none) else (if t745 = t719 then (some true) else (none)))) = some r := by rw [if_neg (show ¬ (false = true) by decide)] at H; exact H
              clear H
              have H := H1
              clear H1
              replace H := Option.bind_eq_some_iff.mp H
              obtain ⟨t745, A1540, H⟩ := H
              try dsimp only at H
              have A154 := Aside0.mk A1540
              clear A1540
              by_cases c155 : t745 < 0
              ·rw [if_pos c155] at H
               exact absurd H (by simp)
              ·rw [if_neg c155] at H
               have c155b0 : decide (t745 < 0) = false := decide_eq_false c155
               clear c155
               by_cases c156 : t745 = t719
               ·rw [if_pos c156] at H
                have c156b0 : (t745 == t719) = true := beq_iff_eq.mpr c156
                have c156b1 : (t745 != t719) = false := bne_eq_false_iff_eq.mpr c156
                clear c156
                obtain rfl := Option.some.inj H
                have hnb157 := NB702_660.out
                have hnc157 := NB660_702.out
                have hnb158 := NB702_681.out
                have hnc158 := NB681_702.out
                have hnb159 := NB702_691.out
                have hnc159 := NB691_702.out
                have hnb160 := NB702_743.out
                have hnc160 := NB743_702.out
                have hcz161_0 : wc.cell? ⟨gb702, 0, none⟩ = some (.slice Ao38 t720.length co38) := (blk_cell BK702.out 0).trans rfl
                have hcz161_1 : wc.cell? ⟨gb702, 1, none⟩ = some (.slice Ao43 t721.length co43) := (blk_cell BK702.out 1).trans rfl
                have hcz161_2 : wc.cell? ⟨gb702, 2, none⟩ = some (.slice Ao44 t722.length co44) := (blk_cell BK702.out 2).trans rfl
                have hfz161_0 := blk_frozen BK702.out 0
                have hfz161_1 := blk_frozen BK702.out 1
                have hfz161_2 := blk_frozen BK702.out 2
                go_wp2_with (first | ((with_reducible refine gate_callee (f := 27) rfl ?_); refine goesL_ (some 90) rfl rfl Try.func27 (by kernel_rfl) rfl #[.agg #[.slice Ao38 t720.length co38, .slice Ao43 t721.length co43, .slice Ao44 t722.length co44], .int .i64 1] rfl args_ ?_; (with_reducible refine (laws_heldDesk.calls kj105 _ _ t720 _ _ t721 _ _ t722 1 t745 _ ?side1 ?side2 ?side3 ?side4 ?side5 ?side6 A154.out).mono ?_); (case side1 => repeat (first | exact (Kd.R_reads' HO_703000.out).2.2 | (with_reducible first | apply cA_ | apply cN_ | apply cD_))); (case side2 => exact (Kd.R_reads' HO_703000.out).2.1); (case side3 => repeat (first | exact (Kd.R_reads' HO_703001.out).2.2 | (with_reducible first | apply cA_ | apply cN_ | apply cD_))); (case side4 => exact (Kd.R_reads' HO_703001.out).2.1); (case side5 => repeat (first | exact (Kd.R_reads' HO_703002.out).2.2 | (with_reducible first | apply cA_ | apply cN_ | apply cD_))); (case side6 => exact (Kd.R_reads' HO_703002.out).2.1); rintro e w162 ⟨rfl, hb⟩; refine ⟨_, rfl, ?_⟩; have n0_ := Aside0.mk (Kd.R_below (ra_ HO_682000) hb); have n1_ := Aside0.mk (Kd.R_below (ra_ HO_682001) hb); have n2_ := Aside0.mk (Kd.R_below (ra_ HO_682002) hb); have n3_ := Aside0.mk (Kd.R_below (ra_ HO_692000) hb); have n4_ := Aside0.mk (Kd.R_below (ra_ HO_692001) hb); have n5_ := Aside0.mk (Kd.R_below (ra_ HO_692002) hb); have n6_ := Aside0.mk (Kd.R_below (ra_ HO_703000) hb); have n7_ := Aside0.mk (Kd.R_below (ra_ HO_703001) hb); have n8_ := Aside0.mk (Kd.R_below (ra_ HO_703002) hb); have n9_ := Aside0.mk (Kd.R_below (ra_ HO_744000) hb); have n10_ := Aside0.mk (Kd.R_below (ra_ HO_744001) hb); have n11_ := Aside0.mk (Kd.R_below (ra_ HO_744002) hb); have n12_ := Aside0.mk (lb_ BK660 hb); have n13_ := Aside0.mk (lb_ BK681 hb); have n14_ := Aside0.mk (lb_ BK691 hb); have n15_ := Aside0.mk (lb_ BK702 hb); have n16_ := Aside0.mk (lb_ BK743 hb); have n17_ := Aside0.mk (below_step (by repeat (first | (with_reducible first | exact HB.out | apply bA_ | apply bN_ | apply bD_ | refine bS_ ?_ GE660.out | refine bS_ ?_ GE681.out | refine bS_ ?_ GE691.out | refine bS_ ?_ GE702.out | refine bS_ ?_ GE743.out) | exact HB.out)) hb); clear HO_682000; clear HO_682001; clear HO_682002; clear HO_692000; clear HO_692001; clear HO_692002; clear HO_703000; clear HO_703001; clear HO_703002; clear HO_744000; clear HO_744001; clear HO_744002; clear BK660; clear BK681; clear BK691; clear BK702; clear BK743; clear HB; have HO_682000 := n0_; have HO_682001 := n1_; have HO_682002 := n2_; have HO_692000 := n3_; have HO_692001 := n4_; have HO_692002 := n5_; have HO_703000 := n6_; have HO_703001 := n7_; have HO_703002 := n8_; have HO_744000 := n9_; have HO_744001 := n10_; have HO_744002 := n11_; have BK660 := n12_; have BK681 := n13_; have BK691 := n14_; have BK702 := n15_; have BK743 := n16_; have HB := n17_; clear n0_ n1_ n2_ n3_ n4_ n5_ n6_ n7_ n8_ n9_ n10_ n11_ n12_ n13_ n14_ n15_ n16_ n17_; (try clear hb); (try clear hb2); (try clear hk); (try clear hi)))
                go_ret
                exact ⟨by first | rfl | (simp [errW_none, errW_some] <;> rfl) | (simp [*, errW_none, errW_some] <;> rfl), by repeat (first | (with_reducible first | exact HB.out | apply bA_ | apply bN_ | apply bD_ | refine bS_ ?_ GE660.out | refine bS_ ?_ GE681.out | refine bS_ ?_ GE691.out | refine bS_ ?_ GE702.out | refine bS_ ?_ GE743.out) | exact HB.out)⟩
               ·rw [if_neg c156] at H
                exact absurd H (by simp)
          ·rw [if_neg c103] at H
           exact absurd H (by simp)
     ·replace c66 := Bool.eq_false_iff.mpr c66
      subst c66
      have H1 : (none) = some r := by rw [if_neg (show ¬ (false = true) by decide)] at H; exact H
      clear H
      have H := H1
      clear H1
      exact absurd H (by simp)

end Go.Proofs.Ytmmpnigbfiebbaa.PA
