-- Written by a program of this session (wip/tools/myprint.py). Not trusted: Lean checks it.
import Derived.Test.YtmmpnigbfiebbaaPAx0
import Derived.Test.YtmmpnigbfiebbaaPAx3
import Derived.Test.YtmmpnigbfiebbaaPAx4
import Derived.Test.YtmmpnigbfiebbaaPAx5
import Derived.Test.YtmmpnigbfiebbaaPAx7
import Derived.Test.YtmmpnigbfiebbaaPAx20
namespace Go.Proofs.Ytmmpnigbfiebbaa.PA
open Go.RowKit Go.Proofs.YtmmpnigbfiebbaaW.PrintWords Go.Proofs.YtmmpnigbfiebbaaW.PrintLast Go.Proofs.YtmmpnigbfiebbaaW.PrintMore
attribute [local go_sem] max2_int min2_int max_two min_two max_three min_three max_four min_four   -- for this text's walks alone
set_option linter.unusedVariables false
set_option linter.unusedSimpArgs false

/-! ### laws_FnExactUndoEdit: function 9 -/
mutual
def laws_FnExactUndoEdit.j0 : Nat → Bool → Bool → Bool → List ByteArray → List (S23) → List (S23) → List ByteArray → List (S25) → List (S25) → List ByteArray → List (S25) → List (S25) → List ByteArray → List (S25) → List (S25) → Option (Bool)
 | 0, _, _, _, _, _, _, _, _, _, _, _, _, _, _, _ => none
 | k + 1, x5, x8, x40, x799000, x799001, x799002, x820000, x820001, x820002, x830000, x830001, x830002, x841000, x841001, x841002 => if x40 = true then (none) else ((laws_toDesk.f k x799000 x799001 x799002).bind fun bt842 => ((laws_eqDesk.f k x830000 x830001 x830002 bt842.1 bt842.2.1 bt842.2.2).bind fun t851 => (if t851 = true then ((laws_markDesk.f k x830000 x830001 x830002 1).bind fun bt852 => (if bt852.1 < 0 then (laws_FnExactUndoEdit.j1 k x5 true x799000 x799001 x799002 x820000 x820001 x820002 x841000 x841001 x841002) else ((laws_eqDesk.f k x841000 x841001 x841002 x820000 x820001 x820002).bind fun t856 => (if t856 = true then (laws_FnExactUndoEdit.j1 k x5 (x8 != x5) x799000 x799001 x799002 x820000 x820001 x820002 x841000 x841001 x841002) else (laws_FnExactUndoEdit.j1 k x5 true x799000 x799001 x799002 x820000 x820001 x820002 x841000 x841001 x841002))))) else (none))))
def laws_FnExactUndoEdit.j1 : Nat → Bool → Bool → List ByteArray → List (S23) → List (S23) → List ByteArray → List (S25) → List (S25) → List ByteArray → List (S25) → List (S25) → Option (Bool)
 | 0, _, _, _, _, _, _, _, _, _, _, _ => none
 | k + 1, x5, x61, x799000, x799001, x799002, x820000, x820001, x820002, x841000, x841001, x841002 => if x61 = true then (none) else ((laws_markDesk.f k x841000 x841001 x841002 1).bind fun bt857 => ((laws_heldDesk.f k bt857.2.1 bt857.2.2.1 bt857.2.2.2 1).bind fun t861 => (if t861 < 0 then (none) else (if t861 = bt857.1 then ((laws_toDesk.f k x799000 x799001 x799002).bind fun bt862 => ((impl_UndoEdit.f k bt862.1 bt862.2.1 bt862.2.2).bind fun bt871 => ((laws_eqDesk.f k bt871.1 bt871.2.1 bt871.2.2.1 x820000 x820001 x820002).bind fun t882 => (if t882 = true then (laws_FnExactUndoEdit.j2 k bt857.1 (bt871.2.2.2 != x5) bt857.2.1 bt857.2.2.1 bt857.2.2.2) else (laws_FnExactUndoEdit.j2 k bt857.1 true bt857.2.1 bt857.2.2.1 bt857.2.2.2))))) else (none)))))
def laws_FnExactUndoEdit.j2 : Nat → Int → Bool → List ByteArray → List (S25) → List (S25) → Option (Bool)
 | 0, _, _, _, _, _ => none
 | k + 1, x10, x87, x841000, x841001, x841002 => if x87 = true then (none) else ((laws_heldDesk.f k x841000 x841001 x841002 1).bind fun t883 => (if t883 < 0 then (none) else (if t883 = x10 then (some true) else (none))))
end
def laws_FnExactUndoEdit.f (k : Nat) (l0_0 : List ByteArray) (l0_1 : List (S23)) (l0_2 : List (S23)) : Option (Bool) := (laws_szDesk.f k l0_0 l0_1 l0_2 1048576).bind fun t799 => (if t799 < 0 then (some true) else ((laws_toDesk.f k l0_0 l0_1 l0_2).bind fun bt800 => ((spec_UndoEdit.f k bt800.1 bt800.2.1 bt800.2.2).bind fun bt809 => ((laws_toDesk.f k l0_0 l0_1 l0_2).bind fun bt820 => ((impl_UndoEdit.f k bt820.1 bt820.2.1 bt820.2.2).bind fun bt830 => ((laws_eqDesk.f k bt830.1 bt830.2.1 bt830.2.2.1 bt809.1 bt809.2.1 bt809.2.2.1).bind fun t841 => (if t841 = true then (laws_FnExactUndoEdit.j0 k bt809.2.2.2 bt830.2.2.2 (bt830.2.2.2 != bt809.2.2.2) l0_0 l0_1 l0_2 bt809.1 bt809.2.1 bt809.2.2.1 bt820.1 bt820.2.1 bt820.2.2 bt830.1 bt830.2.1 bt830.2.2.1) else (laws_FnExactUndoEdit.j0 k bt809.2.2.2 bt830.2.2.2 true l0_0 l0_1 l0_2 bt809.1 bt809.2.1 bt809.2.2.1 bt820.1 bt820.2.1 bt820.2.2 bt830.1 bt830.2.1 bt830.2.2.1))))))))
theorem laws_FnExactUndoEdit.mono_l : ∀ k, (∀ y0 y1 y2 y3 y4 y5 y6 y7 y8 y9 y10 y11 y12 y13 y14, LeO (laws_FnExactUndoEdit.j0 k y0 y1 y2 y3 y4 y5 y6 y7 y8 y9 y10 y11 y12 y13 y14) (laws_FnExactUndoEdit.j0 (k + 1) y0 y1 y2 y3 y4 y5 y6 y7 y8 y9 y10 y11 y12 y13 y14)) ∧ (∀ y0 y1 y2 y3 y4 y5 y6 y7 y8 y9 y10, LeO (laws_FnExactUndoEdit.j1 k y0 y1 y2 y3 y4 y5 y6 y7 y8 y9 y10) (laws_FnExactUndoEdit.j1 (k + 1) y0 y1 y2 y3 y4 y5 y6 y7 y8 y9 y10)) ∧ (∀ y0 y1 y2 y3 y4, LeO (laws_FnExactUndoEdit.j2 k y0 y1 y2 y3 y4) (laws_FnExactUndoEdit.j2 (k + 1) y0 y1 y2 y3 y4))
 | 0 => ⟨fun _ _ _ _ _ _ _ _ _ _ _ _ _ _ _ r h => by simp [laws_FnExactUndoEdit.j0] at h, fun _ _ _ _ _ _ _ _ _ _ _ r h => by simp [laws_FnExactUndoEdit.j1] at h, fun _ _ _ _ _ r h => by simp [laws_FnExactUndoEdit.j2] at h⟩
 | k + 1 => by
  obtain ⟨ih0, ih1, ih2⟩ := laws_FnExactUndoEdit.mono_l k
  refine ⟨?_, ?_, ?_⟩
  ·intro y0 y1 y2 y3 y4 y5 y6 y7 y8 y9 y10 y11 y12 y13 y14
   unfold laws_FnExactUndoEdit.j0
   repeat' first
   | (with_reducible exact ih0 _ _ _ _ _ _ _ _ _ _ _ _ _ _ _)
   | (with_reducible exact ih1 _ _ _ _ _ _ _ _ _ _ _)
   | (with_reducible exact ih2 _ _ _ _ _)
   | (with_reducible exact impl_UndoEdit.mono _ _ _ _)
   | (with_reducible exact laws_eqDesk.mono _ _ _ _ _ _ _)
   | (with_reducible exact laws_heldDesk.mono _ _ _ _ _)
   | (with_reducible exact laws_markDesk.mono _ _ _ _ _)
   | (with_reducible exact laws_szDesk.mono _ _ _ _ _)
   | (with_reducible exact laws_toDesk.mono _ _ _ _)
   | (with_reducible exact spec_UndoEdit.mono _ _ _ _)
   | (with_reducible exact LeO.refl _)
   | (with_reducible exact LeO.none _)
   | (with_reducible refine LeO.ite ?_ ?_)
   | (with_reducible refine LeO.bind ?_ (fun _ => ?_))
   | exact ih0 _ _ _ _ _ _ _ _ _ _ _ _ _ _ _
   | exact ih1 _ _ _ _ _ _ _ _ _ _ _
   | exact ih2 _ _ _ _ _
   | exact LeO.none _
   | refine LeO.ite ?_ ?_
   | refine LeO.bind ?_ (fun _ => ?_)
  ·intro y0 y1 y2 y3 y4 y5 y6 y7 y8 y9 y10
   unfold laws_FnExactUndoEdit.j1
   repeat' first
   | (with_reducible exact ih0 _ _ _ _ _ _ _ _ _ _ _ _ _ _ _)
   | (with_reducible exact ih1 _ _ _ _ _ _ _ _ _ _ _)
   | (with_reducible exact ih2 _ _ _ _ _)
   | (with_reducible exact impl_UndoEdit.mono _ _ _ _)
   | (with_reducible exact laws_eqDesk.mono _ _ _ _ _ _ _)
   | (with_reducible exact laws_heldDesk.mono _ _ _ _ _)
   | (with_reducible exact laws_markDesk.mono _ _ _ _ _)
   | (with_reducible exact laws_szDesk.mono _ _ _ _ _)
   | (with_reducible exact laws_toDesk.mono _ _ _ _)
   | (with_reducible exact spec_UndoEdit.mono _ _ _ _)
   | (with_reducible exact LeO.refl _)
   | (with_reducible exact LeO.none _)
   | (with_reducible refine LeO.ite ?_ ?_)
   | (with_reducible refine LeO.bind ?_ (fun _ => ?_))
   | exact ih0 _ _ _ _ _ _ _ _ _ _ _ _ _ _ _
   | exact ih1 _ _ _ _ _ _ _ _ _ _ _
   | exact ih2 _ _ _ _ _
   | exact LeO.none _
   | refine LeO.ite ?_ ?_
   | refine LeO.bind ?_ (fun _ => ?_)
  ·intro y0 y1 y2 y3 y4
   unfold laws_FnExactUndoEdit.j2
   repeat' first
   | (with_reducible exact ih0 _ _ _ _ _ _ _ _ _ _ _ _ _ _ _)
   | (with_reducible exact ih1 _ _ _ _ _ _ _ _ _ _ _)
   | (with_reducible exact ih2 _ _ _ _ _)
   | (with_reducible exact impl_UndoEdit.mono _ _ _ _)
   | (with_reducible exact laws_eqDesk.mono _ _ _ _ _ _ _)
   | (with_reducible exact laws_heldDesk.mono _ _ _ _ _)
   | (with_reducible exact laws_markDesk.mono _ _ _ _ _)
   | (with_reducible exact laws_szDesk.mono _ _ _ _ _)
   | (with_reducible exact laws_toDesk.mono _ _ _ _)
   | (with_reducible exact spec_UndoEdit.mono _ _ _ _)
   | (with_reducible exact LeO.refl _)
   | (with_reducible exact LeO.none _)
   | (with_reducible refine LeO.ite ?_ ?_)
   | (with_reducible refine LeO.bind ?_ (fun _ => ?_))
   | exact ih0 _ _ _ _ _ _ _ _ _ _ _ _ _ _ _
   | exact ih1 _ _ _ _ _ _ _ _ _ _ _
   | exact ih2 _ _ _ _ _
   | exact LeO.none _
   | refine LeO.ite ?_ ?_
   | refine LeO.bind ?_ (fun _ => ?_)
theorem laws_FnExactUndoEdit.mono : ∀ a0 a1 a2 k, LeO (laws_FnExactUndoEdit.f k a0 a1 a2) (laws_FnExactUndoEdit.f (k + 1) a0 a1 a2) := by
 intro a0 a1 a2 k
 obtain ⟨ih0, ih1, ih2⟩ := laws_FnExactUndoEdit.mono_l k
 unfold laws_FnExactUndoEdit.f
 repeat' first
   | (with_reducible exact ih0 _ _ _ _ _ _ _ _ _ _ _ _ _ _ _)
   | (with_reducible exact ih1 _ _ _ _ _ _ _ _ _ _ _)
   | (with_reducible exact ih2 _ _ _ _ _)
   | (with_reducible exact impl_UndoEdit.mono _ _ _ _)
   | (with_reducible exact laws_eqDesk.mono _ _ _ _ _ _ _)
   | (with_reducible exact laws_heldDesk.mono _ _ _ _ _)
   | (with_reducible exact laws_markDesk.mono _ _ _ _ _)
   | (with_reducible exact laws_szDesk.mono _ _ _ _ _)
   | (with_reducible exact laws_toDesk.mono _ _ _ _)
   | (with_reducible exact spec_UndoEdit.mono _ _ _ _)
   | (with_reducible exact LeO.refl _)
   | (with_reducible exact LeO.none _)
   | (with_reducible refine LeO.ite ?_ ?_)
   | (with_reducible refine LeO.bind ?_ (fun _ => ?_))
   | exact ih0 _ _ _ _ _ _ _ _ _ _ _ _ _ _ _
   | exact ih1 _ _ _ _ _ _ _ _ _ _ _
   | exact ih2 _ _ _ _ _
   | exact LeO.none _
   | refine LeO.ite ?_ ?_
   | refine LeO.bind ?_ (fun _ => ?_)
set_option maxHeartbeats 8000000 in
set_option maxRecDepth 100000 in
theorem laws_FnExactUndoEdit.calls (k : Nat) (A0_0 : Option Addr) (c0_0 : Nat) (l0_0 : List ByteArray) (A0_1 : Option Addr) (c0_1 : Nat) (l0_1 : List (S23)) (A0_2 : Option Addr) (c0_2 : Nat) (l0_2 : List (S23)) (r : Bool) (w : World) (hr0_0 : Kd.C Kd.string w A0_0 l0_0.length l0_0) (hc0_0 : l0_0.length ≤ c0_0) (hr0_1 : Kd.C k23 w A0_1 l0_1.length l0_1) (hc0_1 : l0_1.length ≤ c0_1) (hr0_2 : Kd.C k23 w A0_2 l0_2.length l0_2) (hc0_2 : l0_2.length ≤ c0_2) (h : laws_FnExactUndoEdit.f k l0_0 l0_1 l0_2 = some r) :
  Calls Try.prog 9 #[.agg #[.slice A0_0 l0_0.length c0_0, .slice A0_1 l0_1.length c0_1, .slice A0_2 l0_2.length c0_2]] w fun e w' => e = .returned (.bool r) ∧ Below w.heap.size w w' := by
 have hu45 := Try.underlying45
 have hu35 := Try.underlying35
 have HR0_0 := Aside0.mk hr0_0
 have HC0_0 := Aside0.mk hc0_0
 clear hr0_0 hc0_0
 have HR0_1 := Aside0.mk hr0_1
 have HC0_1 := Aside0.mk hc0_1
 clear hr0_1 hc0_1
 have HR0_2 := Aside0.mk hr0_2
 have HC0_2 := Aside0.mk hc0_2
 clear hr0_2 hc0_2
 have HB := Aside0.mk (Below.refl w.heap.size w)
 have H : ((laws_szDesk.f k l0_0 l0_1 l0_2 1048576).bind fun t799 => (if t799 < 0 then (some true) else ((laws_toDesk.f k l0_0 l0_1 l0_2).bind fun bt800 => ((spec_UndoEdit.f k bt800.1 bt800.2.1 bt800.2.2).bind fun bt809 => ((laws_toDesk.f k l0_0 l0_1 l0_2).bind fun bt820 => ((impl_UndoEdit.f k bt820.1 bt820.2.1 bt820.2.2).bind fun bt830 => ((laws_eqDesk.f k bt830.1 bt830.2.1 bt830.2.2.1 bt809.1 bt809.2.1 bt809.2.2.1).bind fun t841 => (if t841 = true then (laws_FnExactUndoEdit.j0 k bt809.2.2.2 bt830.2.2.2 (bt830.2.2.2 != bt809.2.2.2) l0_0 l0_1 l0_2 bt809.1 bt809.2.1 bt809.2.2.1 bt820.1 bt820.2.1 bt820.2.2 bt830.1 bt830.2.1 bt830.2.2.1) else (laws_FnExactUndoEdit.j0 k bt809.2.2.2 bt830.2.2.2 true l0_0 l0_1 l0_2 bt809.1 bt809.2.1 bt809.2.2.1 bt820.1 bt820.2.1 bt820.2.2 bt830.1 bt830.2.1 bt830.2.2.1))))))))) = some r := h
 clear h
 replace H := Option.bind_eq_some_iff.mp H
 obtain ⟨t799, A20, H⟩ := H
 try dsimp only at H
 have A2 := Aside0.mk A20
 clear A20
 by_cases c3 : t799 < 0
 ·rw [if_pos c3] at H
  have c3b0 : decide (t799 < 0) = true := decide_eq_true c3
  clear c3
  obtain rfl := Option.some.inj H
  go_enter Try.func9, Try.ntmps9
  go_wp2_with (first | ((with_reducible refine gate_dst (N := 1) rfl ?_); refine box_event ?hg (N := 1) ?hd (cs := #[.slice A0_0 l0_0.length c0_0, .slice A0_1 l0_1.length c0_1, .slice A0_2 l0_2.length c0_2]) (t := 45) ?hr ?_; (case hd => rfl); (case hg => rfl); (case hr => first | (go_simp; done) | (go_simp; rfl)); intro gb798 hg w4 hbox hb; have n0_ := Aside0.mk (bt_ HB hb); have n1_ := Aside0.mk (hbox); have n2_ := Aside0.mk ((by rw [hg]; exact (bz_ HB) : w.heap.size ≤ gb798)); have n3_ := Aside0.mk ((by rw [hg]; exact (bz_ HB) : w.heap.size ≤ gb798)); clear HB; have HB := n0_; have BK798 := n1_; have GW798 := n2_; have GE798 := n3_; clear n0_ n1_ n2_ n3_; clear hb hbox hg; have hcz5_0 : w4.cell? ⟨gb798, 0, none⟩ = some (.slice A0_0 l0_0.length c0_0) := (blk_cell BK798.out 0).trans rfl; have hcz5_1 : w4.cell? ⟨gb798, 1, none⟩ = some (.slice A0_1 l0_1.length c0_1) := (blk_cell BK798.out 1).trans rfl; have hcz5_2 : w4.cell? ⟨gb798, 2, none⟩ = some (.slice A0_2 l0_2.length c0_2) := (blk_cell BK798.out 2).trans rfl; have hfz5_0 := blk_frozen BK798.out 0; have hfz5_1 := blk_frozen BK798.out 1; have hfz5_2 := blk_frozen BK798.out 2) | ((with_reducible refine gate_callee (f := 28) rfl ?_); refine goesL_ (some 16) rfl rfl Try.func28 (by kernel_rfl) rfl #[.agg #[.slice A0_0 l0_0.length c0_0, .slice A0_1 l0_1.length c0_1, .slice A0_2 l0_2.length c0_2], .int .i64 1048576] rfl args_ ?_; (with_reducible refine (laws_szDesk.calls k _ _ l0_0 _ _ l0_1 _ _ l0_2 1048576 t799 _ ?side1 ?side2 ?side3 ?side4 ?side5 ?side6 A2.out).mono ?_); (case side1 => repeat (first | exact (Kd.C_below HR0_0.out HB.out) | (with_reducible first | apply cA_ | apply cN_ | apply cD_))); (case side2 => exact HC0_0.out); (case side3 => repeat (first | exact (Kd.C_below HR0_1.out HB.out) | (with_reducible first | apply cA_ | apply cN_ | apply cD_))); (case side4 => exact HC0_1.out); (case side5 => repeat (first | exact (Kd.C_below HR0_2.out HB.out) | (with_reducible first | apply cA_ | apply cN_ | apply cD_))); (case side6 => exact HC0_2.out); rintro e w6 ⟨rfl, hb⟩; refine ⟨_, rfl, ?_⟩; have n0_ := Aside0.mk (lb_ BK798 hb); have n1_ := Aside0.mk (below_step (bb1_ HB GE798) hb); clear BK798; clear HB; have BK798 := n0_; have HB := n1_; clear n0_ n1_; (try clear hb); (try clear hb2); (try clear hk); (try clear hi)))
  go_ret
  exact ⟨by first | rfl | (simp [errW_none, errW_some] <;> rfl) | (simp [*, errW_none, errW_some] <;> rfl), bb1_ HB GE798⟩
 ·rw [if_neg c3] at H
  have c3b0 : decide (t799 < 0) = false := decide_eq_false c3
  clear c3
  replace H := Option.bind_eq_some_iff.mp H
  obtain ⟨⟨t800, t803, t806⟩, A70, H⟩ := H
  try dsimp only at H
  have A7 := Aside0.mk A70
  clear A70
  replace H := Option.bind_eq_some_iff.mp H
  obtain ⟨⟨t809, t812, t815, t818⟩, A80, H⟩ := H
  try dsimp only at H
  have A8 := Aside0.mk A80
  clear A80
  replace H := Option.bind_eq_some_iff.mp H
  obtain ⟨⟨t820, t823, t826⟩, A90, H⟩ := H
  try dsimp only at H
  have A9 := Aside0.mk A90
  clear A90
  replace H := Option.bind_eq_some_iff.mp H
  obtain ⟨⟨t830, t833, t836, t839⟩, A100, H⟩ := H
  try dsimp only at H
  have A10 := Aside0.mk A100
  clear A100
  have HC11 := Aside0.mk H
  clear H
  go_enter Try.func9, Try.ntmps9
  go_upto_region 8 with (first | ((with_reducible refine gate_dst (N := 1) rfl ?_); refine box_event ?hg (N := 1) ?hd (cs := #[.slice A0_0 l0_0.length c0_0, .slice A0_1 l0_1.length c0_1, .slice A0_2 l0_2.length c0_2]) (t := 45) ?hr ?_; (case hd => rfl); (case hg => rfl); (case hr => first | (go_simp; done) | (go_simp; rfl)); intro gb798 hg w12 hbox hb; have n0_ := Aside0.mk (bt_ HB hb); have n1_ := Aside0.mk (hbox); have n2_ := Aside0.mk ((by rw [hg]; exact (bz_ HB) : w.heap.size ≤ gb798)); have n3_ := Aside0.mk ((by rw [hg]; exact (bz_ HB) : w.heap.size ≤ gb798)); clear HB; have HB := n0_; have BK798 := n1_; have GW798 := n2_; have GE798 := n3_; clear n0_ n1_ n2_ n3_; clear hb hbox hg; have hcz13_0 : w12.cell? ⟨gb798, 0, none⟩ = some (.slice A0_0 l0_0.length c0_0) := (blk_cell BK798.out 0).trans rfl; have hcz13_1 : w12.cell? ⟨gb798, 1, none⟩ = some (.slice A0_1 l0_1.length c0_1) := (blk_cell BK798.out 1).trans rfl; have hcz13_2 : w12.cell? ⟨gb798, 2, none⟩ = some (.slice A0_2 l0_2.length c0_2) := (blk_cell BK798.out 2).trans rfl; have hfz13_0 := blk_frozen BK798.out 0; have hfz13_1 := blk_frozen BK798.out 1; have hfz13_2 := blk_frozen BK798.out 2) | ((with_reducible refine gate_callee (f := 28) rfl ?_); refine goesL_ (some 16) rfl rfl Try.func28 (by kernel_rfl) rfl #[.agg #[.slice A0_0 l0_0.length c0_0, .slice A0_1 l0_1.length c0_1, .slice A0_2 l0_2.length c0_2], .int .i64 1048576] rfl args_ ?_; (with_reducible refine (laws_szDesk.calls k _ _ l0_0 _ _ l0_1 _ _ l0_2 1048576 t799 _ ?side1 ?side2 ?side3 ?side4 ?side5 ?side6 A2.out).mono ?_); (case side1 => repeat (first | exact (Kd.C_below HR0_0.out HB.out) | (with_reducible first | apply cA_ | apply cN_ | apply cD_))); (case side2 => exact HC0_0.out); (case side3 => repeat (first | exact (Kd.C_below HR0_1.out HB.out) | (with_reducible first | apply cA_ | apply cN_ | apply cD_))); (case side4 => exact HC0_1.out); (case side5 => repeat (first | exact (Kd.C_below HR0_2.out HB.out) | (with_reducible first | apply cA_ | apply cN_ | apply cD_))); (case side6 => exact HC0_2.out); rintro e w14 ⟨rfl, hb⟩; refine ⟨_, rfl, ?_⟩; have n0_ := Aside0.mk (lb_ BK798 hb); have n1_ := Aside0.mk (below_step (bb1_ HB GE798) hb); clear BK798; clear HB; have BK798 := n0_; have HB := n1_; clear n0_ n1_; (try clear hb); (try clear hb2); (try clear hk); (try clear hi); have hcz15_0 : w14.cell? ⟨gb798, 0, none⟩ = some (.slice A0_0 l0_0.length c0_0) := (blk_cell BK798.out 0).trans rfl; have hcz15_1 : w14.cell? ⟨gb798, 1, none⟩ = some (.slice A0_1 l0_1.length c0_1) := (blk_cell BK798.out 1).trans rfl; have hcz15_2 : w14.cell? ⟨gb798, 2, none⟩ = some (.slice A0_2 l0_2.length c0_2) := (blk_cell BK798.out 2).trans rfl; have hfz15_0 := blk_frozen BK798.out 0; have hfz15_1 := blk_frozen BK798.out 1; have hfz15_2 := blk_frozen BK798.out 2) | ((with_reducible refine gate_callee (f := 30) rfl ?_); refine goesL_ (some 21) rfl rfl Try.func30 (by kernel_rfl) rfl #[.agg #[.slice A0_0 l0_0.length c0_0, .slice A0_1 l0_1.length c0_1, .slice A0_2 l0_2.length c0_2]] rfl args_ ?_; (with_reducible refine (laws_toDesk.calls k _ _ l0_0 _ _ l0_1 _ _ l0_2 t800 t803 t806 _ ?side1 ?side2 ?side3 ?side4 ?side5 ?side6 A7.out).mono ?_); (case side1 => repeat (first | exact (Kd.C_below HR0_0.out HB.out) | (with_reducible first | apply cA_ | apply cN_ | apply cD_))); (case side2 => exact HC0_0.out); (case side3 => repeat (first | exact (Kd.C_below HR0_1.out HB.out) | (with_reducible first | apply cA_ | apply cN_ | apply cD_))); (case side4 => exact HC0_1.out); (case side5 => repeat (first | exact (Kd.C_below HR0_2.out HB.out) | (with_reducible first | apply cA_ | apply cN_ | apply cD_))); (case side6 => exact HC0_2.out); rintro e w16 ⟨v801, v804, v807, rfl, ho0, ho1, ho2, hb⟩; refine ⟨_, rfl, ?_⟩; have n0_ := Aside0.mk (Kd.R_lower ho0 (below_size (bb1_ HB GE798))); have n1_ := Aside0.mk (Kd.R_lower ho1 (below_size (bb1_ HB GE798))); have n2_ := Aside0.mk (Kd.R_lower ho2 (below_size (bb1_ HB GE798))); have n3_ := Aside0.mk (lb_ BK798 hb); have n4_ := Aside0.mk (below_step (bb1_ HB GE798) hb); clear BK798; clear HB; have HO802 := n0_; have HO805 := n1_; have HO808 := n2_; have BK798 := n3_; have HB := n4_; clear n0_ n1_ n2_ n3_ n4_; (try clear hb); (try clear hb2); (try clear hk); (try clear hi); (try clear ho0); (try clear ho1); (try clear ho2); obtain ⟨Ao17, co17, eo17⟩ := Kd.R_slice HO802.out; subst eo17; obtain ⟨Ao18, co18, eo18⟩ := Kd.R_slice HO805.out; subst eo18; obtain ⟨Ao19, co19, eo19⟩ := Kd.R_slice HO808.out; subst eo19) | ((with_reducible refine gate_callee (f := 39) rfl ?_); refine goesL_ (some 22) rfl rfl Try.func39 (by kernel_rfl) rfl #[.agg #[.slice Ao17 t800.length co17, .slice Ao18 t803.length co18, .slice Ao19 t806.length co19]] rfl args_ ?_; (with_reducible refine (spec_UndoEdit.calls k _ _ t800 _ _ t803 _ _ t806 t809 t812 t815 t818 _ ?side1 ?side2 ?side3 ?side4 ?side5 ?side6 A8.out).mono ?_); (case side1 => repeat (first | exact (Kd.R_reads' HO802.out).2.2 | (with_reducible first | apply cA_ | apply cN_ | apply cD_))); (case side2 => exact (Kd.R_reads' HO802.out).2.1); (case side3 => repeat (first | exact (Kd.R_reads' HO805.out).2.2 | (with_reducible first | apply cA_ | apply cN_ | apply cD_))); (case side4 => exact (Kd.R_reads' HO805.out).2.1); (case side5 => repeat (first | exact (Kd.R_reads' HO808.out).2.2 | (with_reducible first | apply cA_ | apply cN_ | apply cD_))); (case side6 => exact (Kd.R_reads' HO808.out).2.1); rintro e w20 ⟨v810, v813, v816, rfl, ho0, ho1, ho2, hb⟩; refine ⟨_, rfl, ?_⟩; have n0_ := Aside0.mk (Kd.R_elder' (ra_ HO802) (Kd.R_base ho0) hb); have n1_ := Aside0.mk (Kd.R_mono (Kd.R_told (Kd.R_told (Kd.R_old (ra_ HO805) hb) (Kd.R_base ho1)) (Kd.R_base ho2)) (fun _ h_ => h_.1)); have n2_ := Aside0.mk (Kd.R_mono (Kd.R_told (Kd.R_told (Kd.R_old (ra_ HO808) hb) (Kd.R_base ho1)) (Kd.R_base ho2)) (fun _ h_ => h_.1)); have n3_ := Aside0.mk (Kd.R_lower (Kd.R_new' ho0 (Kd.R_lt (ra_ HO802))) (below_size (bb1_ HB GE798))); have n4_ := Aside0.mk (Kd.R_lower (Kd.R_new' (Kd.R_new' ho1 (Kd.R_lt (ra_ HO805))) (Kd.R_lt (ra_ HO808))) (below_size (bb1_ HB GE798))); have n5_ := Aside0.mk (Kd.R_lower (Kd.R_new' (Kd.R_new' ho2 (Kd.R_lt (ra_ HO805))) (Kd.R_lt (ra_ HO808))) (below_size (bb1_ HB GE798))); have n6_ := Aside0.mk (lb_ BK798 hb); have n7_ := Aside0.mk (below_step (bb1_ HB GE798) hb); clear HO802; clear HO805; clear HO808; clear BK798; clear HB; have HO802 := n0_; have HO805 := n1_; have HO808 := n2_; have HO811 := n3_; have HO814 := n4_; have HO817 := n5_; have BK798 := n6_; have HB := n7_; clear n0_ n1_ n2_ n3_ n4_ n5_ n6_ n7_; (try clear hb); (try clear hb2); (try clear hk); (try clear hi); (try clear ho0); (try clear ho1); (try clear ho2)) | ((with_reducible refine gate_dst (N := 4) rfl ?_); refine box_event ?hg (N := 4) ?hd (cs := #[.slice none 0 0, .slice none 0 0, .slice none 0 0]) (t := 35) ?hr ?_; (case hd => rfl); (case hg => rfl); (case hr => first | (go_simp; done) | (go_simp; rfl)); intro gb819 hg w21 hbox hb; have n0_ := Aside0.mk (Kd.R_below (ra_ HO802) hb); have n1_ := Aside0.mk (Kd.R_below (ra_ HO805) hb); have n2_ := Aside0.mk (Kd.R_below (ra_ HO808) hb); have n3_ := Aside0.mk (Kd.R_below (ra_ HO811) hb); have n4_ := Aside0.mk (Kd.R_below (ra_ HO814) hb); have n5_ := Aside0.mk (Kd.R_below (ra_ HO817) hb); have n6_ := Aside0.mk (lb_ BK798 hb); have n7_ := Aside0.mk (below_step (bb1_ HB GE798) hb); have n8_ := Aside0.mk (hbox); have n9_ := Aside0.mk ((by rw [hg]; exact (below_size (bb1_ HB GE798)) : w.heap.size ≤ gb819)); have n10_ := Aside0.mk ((by rw [hg]; exact (below_size (bb1_ HB GE798)) : w.heap.size ≤ gb819)); have n11_ := Aside0.mk ((by rw [hg]; exact Nat.ne_of_lt (blk_lt (g := gb798) (o := .cells #[.slice A0_0 l0_0.length c0_0, .slice A0_1 l0_1.length c0_1, .slice A0_2 l0_2.length c0_2] 45 (0, 0)) (la_ BK798)) : gb798 ≠ gb819)); have n12_ := Aside0.mk ((by rw [hg]; exact Nat.ne_of_gt (blk_lt (g := gb798) (o := .cells #[.slice A0_0 l0_0.length c0_0, .slice A0_1 l0_1.length c0_1, .slice A0_2 l0_2.length c0_2] 45 (0, 0)) (la_ BK798)) : gb819 ≠ gb798)); clear HO802; clear HO805; clear HO808; clear HO811; clear HO814; clear HO817; clear BK798; clear HB; have HO802 := n0_; have HO805 := n1_; have HO808 := n2_; have HO811 := n3_; have HO814 := n4_; have HO817 := n5_; have BK798 := n6_; have HB := n7_; have BK819 := n8_; have GW819 := n9_; have GE819 := n10_; have NB798_819 := n11_; have NB819_798 := n12_; clear n0_ n1_ n2_ n3_ n4_ n5_ n6_ n7_ n8_ n9_ n10_ n11_ n12_; clear hb hbox hg; obtain ⟨Ao22, co22, eo22⟩ := Kd.R_slice HO811.out; subst eo22; have hnb23 := NB819_798.out; have hnc23 := NB798_819.out; have hcz24_0 : w21.cell? ⟨gb819, 0, none⟩ = some (.slice none 0 0) := (blk_cell BK819.out 0).trans rfl; have hcz24_1 : w21.cell? ⟨gb819, 1, none⟩ = some (.slice none 0 0) := (blk_cell BK819.out 1).trans rfl; have hcz24_2 : w21.cell? ⟨gb819, 2, none⟩ = some (.slice none 0 0) := (blk_cell BK819.out 2).trans rfl; have hfz24_0 := blk_frozen BK819.out 0; have hfz24_1 := blk_frozen BK819.out 1; have hfz24_2 := blk_frozen BK819.out 2; obtain ⟨Ao25, co25, eo25⟩ := Kd.R_slice HO814.out; subst eo25; obtain ⟨Ao26, co26, eo26⟩ := Kd.R_slice HO817.out; subst eo26; have hcz27_0 : w21.cell? ⟨gb798, 0, none⟩ = some (.slice A0_0 l0_0.length c0_0) := (blk_cell BK798.out 0).trans rfl; have hcz27_1 : w21.cell? ⟨gb798, 1, none⟩ = some (.slice A0_1 l0_1.length c0_1) := (blk_cell BK798.out 1).trans rfl; have hcz27_2 : w21.cell? ⟨gb798, 2, none⟩ = some (.slice A0_2 l0_2.length c0_2) := (blk_cell BK798.out 2).trans rfl; have hfz27_0 := blk_frozen BK798.out 0; have hfz27_1 := blk_frozen BK798.out 1; have hfz27_2 := blk_frozen BK798.out 2) | ((with_reducible refine gate_callee (f := 30) rfl ?_); refine goesL_ (some 26) rfl rfl Try.func30 (by kernel_rfl) rfl #[.agg #[.slice A0_0 l0_0.length c0_0, .slice A0_1 l0_1.length c0_1, .slice A0_2 l0_2.length c0_2]] rfl args_ ?_; (with_reducible refine (laws_toDesk.calls k _ _ l0_0 _ _ l0_1 _ _ l0_2 t820 t823 t826 _ ?side1 ?side2 ?side3 ?side4 ?side5 ?side6 A9.out).mono ?_); (case side1 => exact Kd.C_below HR0_0.out (bb2_ HB GE798 GE819)); (case side2 => exact HC0_0.out); (case side3 => exact Kd.C_below HR0_1.out (bb2_ HB GE798 GE819)); (case side4 => exact HC0_1.out); (case side5 => exact Kd.C_below HR0_2.out (bb2_ HB GE798 GE819)); (case side6 => exact HC0_2.out); rintro e w28 ⟨v821, v824, v827, rfl, ho0, ho1, ho2, hb⟩; refine ⟨_, rfl, ?_⟩; have n0_ := Aside0.mk (Kd.R_elder' (rf_ (fm_ (fr_ (fr_ (fr_ (ft_ HO802 BK819) 0 (.slice Ao22 t809.length co22)) 1 (.slice Ao25 t812.length co25)) 2 (.slice Ao26 t815.length co26)))) (Kd.R_base ho0) hb); have n1_ := Aside0.mk (Kd.R_mono (Kd.R_told (Kd.R_told (Kd.R_old (rf_ (fm_ (fr_ (fr_ (fr_ (ft_ HO805 BK819) 0 (.slice Ao22 t809.length co22)) 1 (.slice Ao25 t812.length co25)) 2 (.slice Ao26 t815.length co26)))) hb) (Kd.R_base ho1)) (Kd.R_base ho2)) (fun _ h_ => h_.1)); have n2_ := Aside0.mk (Kd.R_mono (Kd.R_told (Kd.R_told (Kd.R_old (rf_ (fm_ (fr_ (fr_ (fr_ (ft_ HO808 BK819) 0 (.slice Ao22 t809.length co22)) 1 (.slice Ao25 t812.length co25)) 2 (.slice Ao26 t815.length co26)))) hb) (Kd.R_base ho1)) (Kd.R_base ho2)) (fun _ h_ => h_.1)); have n3_ := Aside0.mk (Kd.R_elder' (rf_ (fm_ (fr_ (fr_ (fr_ (ft_ HO811 BK819) 0 (.slice Ao22 t809.length co22)) 1 (.slice Ao25 t812.length co25)) 2 (.slice Ao26 t815.length co26)))) (Kd.R_base ho0) hb); have n4_ := Aside0.mk (Kd.R_mono (Kd.R_told (Kd.R_told (Kd.R_old (rf_ (fm_ (fr_ (fr_ (fr_ (ft_ HO814 BK819) 0 (.slice Ao22 t809.length co22)) 1 (.slice Ao25 t812.length co25)) 2 (.slice Ao26 t815.length co26)))) hb) (Kd.R_base ho1)) (Kd.R_base ho2)) (fun _ h_ => h_.1)); have n5_ := Aside0.mk (Kd.R_mono (Kd.R_told (Kd.R_told (Kd.R_old (rf_ (fm_ (fr_ (fr_ (fr_ (ft_ HO817 BK819) 0 (.slice Ao22 t809.length co22)) 1 (.slice Ao25 t812.length co25)) 2 (.slice Ao26 t815.length co26)))) hb) (Kd.R_base ho1)) (Kd.R_base ho2)) (fun _ h_ => h_.1)); have n6_ := Aside0.mk (Kd.R_lower (Kd.R_new' (Kd.R_new' ho0 (Kd.R_lt (rf_ (fm_ (fr_ (fr_ (fr_ (ft_ HO802 BK819) 0 (.slice Ao22 t809.length co22)) 1 (.slice Ao25 t812.length co25)) 2 (.slice Ao26 t815.length co26)))))) (Kd.R_lt (rf_ (fm_ (fr_ (fr_ (fr_ (ft_ HO811 BK819) 0 (.slice Ao22 t809.length co22)) 1 (.slice Ao25 t812.length co25)) 2 (.slice Ao26 t815.length co26)))))) (below_size (bb2_ HB GE798 GE819))); have n7_ := Aside0.mk (Kd.R_lower (Kd.R_new' (Kd.R_new' (Kd.R_new' (Kd.R_new' ho1 (Kd.R_lt (rf_ (fm_ (fr_ (fr_ (fr_ (ft_ HO805 BK819) 0 (.slice Ao22 t809.length co22)) 1 (.slice Ao25 t812.length co25)) 2 (.slice Ao26 t815.length co26)))))) (Kd.R_lt (rf_ (fm_ (fr_ (fr_ (fr_ (ft_ HO808 BK819) 0 (.slice Ao22 t809.length co22)) 1 (.slice Ao25 t812.length co25)) 2 (.slice Ao26 t815.length co26)))))) (Kd.R_lt (rf_ (fm_ (fr_ (fr_ (fr_ (ft_ HO814 BK819) 0 (.slice Ao22 t809.length co22)) 1 (.slice Ao25 t812.length co25)) 2 (.slice Ao26 t815.length co26)))))) (Kd.R_lt (rf_ (fm_ (fr_ (fr_ (fr_ (ft_ HO817 BK819) 0 (.slice Ao22 t809.length co22)) 1 (.slice Ao25 t812.length co25)) 2 (.slice Ao26 t815.length co26)))))) (below_size (bb2_ HB GE798 GE819))); have n8_ := Aside0.mk (Kd.R_lower (Kd.R_new' (Kd.R_new' (Kd.R_new' (Kd.R_new' ho2 (Kd.R_lt (rf_ (fm_ (fr_ (fr_ (fr_ (ft_ HO805 BK819) 0 (.slice Ao22 t809.length co22)) 1 (.slice Ao25 t812.length co25)) 2 (.slice Ao26 t815.length co26)))))) (Kd.R_lt (rf_ (fm_ (fr_ (fr_ (fr_ (ft_ HO808 BK819) 0 (.slice Ao22 t809.length co22)) 1 (.slice Ao25 t812.length co25)) 2 (.slice Ao26 t815.length co26)))))) (Kd.R_lt (rf_ (fm_ (fr_ (fr_ (fr_ (ft_ HO814 BK819) 0 (.slice Ao22 t809.length co22)) 1 (.slice Ao25 t812.length co25)) 2 (.slice Ao26 t815.length co26)))))) (Kd.R_lt (rf_ (fm_ (fr_ (fr_ (fr_ (ft_ HO817 BK819) 0 (.slice Ao22 t809.length co22)) 1 (.slice Ao25 t812.length co25)) 2 (.slice Ao26 t815.length co26)))))) (below_size (bb2_ HB GE798 GE819))); have n9_ := Aside0.mk (blk_below (g := gb798) (o := .cells #[.slice A0_0 l0_0.length c0_0, .slice A0_1 l0_1.length c0_1, .slice A0_2 l0_2.length c0_2] 45 (0, 0)) (by (with_reducible repeat (first | apply lN_ | apply lD_ | apply lA_)); refine blk_far ?_ NB798_819.out _; (with_reducible repeat (first | apply lN_ | apply lD_ | apply lA_)); refine blk_far ?_ NB798_819.out _; (with_reducible repeat (first | apply lN_ | apply lD_ | apply lA_)); refine blk_far ?_ NB798_819.out _; (with_reducible repeat (first | apply lN_ | apply lD_ | apply lA_)); exact BK798.out) hb); have n10_ := Aside0.mk (blk_below (g := gb819) (o := .cells #[.slice Ao22 t809.length co22, .slice Ao25 t812.length co25, .slice Ao26 t815.length co26] 35 (0, 0)) (by (with_reducible repeat (first | apply lN_ | apply lD_ | apply lA_)); refine blk_put (cs := #[.slice Ao22 t809.length co22, .slice Ao25 t812.length co25, .slice none 0 0]) ?_ 2 _ rfl; (with_reducible repeat (first | apply lN_ | apply lD_ | apply lA_)); refine blk_put (cs := #[.slice Ao22 t809.length co22, .slice none 0 0, .slice none 0 0]) ?_ 1 _ rfl; (with_reducible repeat (first | apply lN_ | apply lD_ | apply lA_)); refine blk_put (cs := #[.slice none 0 0, .slice none 0 0, .slice none 0 0]) ?_ 0 _ rfl; (with_reducible repeat (first | apply lN_ | apply lD_ | apply lA_)); exact BK819.out) hb); have n11_ := Aside0.mk (below_step (bb2_ HB GE798 GE819) hb); clear HO802; clear HO805; clear HO808; clear HO811; clear HO814; clear HO817; clear BK798; clear BK819; clear HB; have HO802 := n0_; have HO805 := n1_; have HO808 := n2_; have HO811 := n3_; have HO814 := n4_; have HO817 := n5_; have HO822 := n6_; have HO825 := n7_; have HO828 := n8_; have BK798 := n9_; have BK819 := n10_; have HB := n11_; clear n0_ n1_ n2_ n3_ n4_ n5_ n6_ n7_ n8_ n9_ n10_ n11_; (try clear hb); (try clear hb2); (try clear hk); (try clear hi); (try clear ho0); (try clear ho1); (try clear ho2)) | ((with_reducible refine gate_dst (N := 6) rfl ?_); refine box_event ?hg (N := 6) ?hd (cs := #[.slice none 0 0, .slice none 0 0, .slice none 0 0]) (t := 35) ?hr ?_; (case hd => rfl); (case hg => rfl); (case hr => first | (go_simp; done) | (go_simp; rfl)); intro gb829 hg w29 hbox hb; have n0_ := Aside0.mk (Kd.R_below (ra_ HO802) hb); have n1_ := Aside0.mk (Kd.R_below (ra_ HO805) hb); have n2_ := Aside0.mk (Kd.R_below (ra_ HO808) hb); have n3_ := Aside0.mk (Kd.R_below (ra_ HO811) hb); have n4_ := Aside0.mk (Kd.R_below (ra_ HO814) hb); have n5_ := Aside0.mk (Kd.R_below (ra_ HO817) hb); have n6_ := Aside0.mk (Kd.R_below (ra_ HO822) hb); have n7_ := Aside0.mk (Kd.R_below (ra_ HO825) hb); have n8_ := Aside0.mk (Kd.R_below (ra_ HO828) hb); have n9_ := Aside0.mk (lb_ BK798 hb); have n10_ := Aside0.mk (lb_ BK819 hb); have n11_ := Aside0.mk (below_step (bb2_ HB GE798 GE819) hb); have n12_ := Aside0.mk (hbox); have n13_ := Aside0.mk ((by rw [hg]; exact (below_size (bb2_ HB GE798 GE819)) : w.heap.size ≤ gb829)); have n14_ := Aside0.mk ((by rw [hg]; exact (below_size (bb2_ HB GE798 GE819)) : w.heap.size ≤ gb829)); have n15_ := Aside0.mk ((by rw [hg]; exact Nat.ne_of_lt (blk_lt (g := gb798) (o := .cells #[.slice A0_0 l0_0.length c0_0, .slice A0_1 l0_1.length c0_1, .slice A0_2 l0_2.length c0_2] 45 (0, 0)) (la_ BK798)) : gb798 ≠ gb829)); have n16_ := Aside0.mk ((by rw [hg]; exact Nat.ne_of_gt (blk_lt (g := gb798) (o := .cells #[.slice A0_0 l0_0.length c0_0, .slice A0_1 l0_1.length c0_1, .slice A0_2 l0_2.length c0_2] 45 (0, 0)) (la_ BK798)) : gb829 ≠ gb798)); have n17_ := Aside0.mk ((by rw [hg]; exact Nat.ne_of_lt (blk_lt (g := gb819) (o := .cells #[.slice Ao22 t809.length co22, .slice Ao25 t812.length co25, .slice Ao26 t815.length co26] 35 (0, 0)) (la_ BK819)) : gb819 ≠ gb829)); have n18_ := Aside0.mk ((by rw [hg]; exact Nat.ne_of_gt (blk_lt (g := gb819) (o := .cells #[.slice Ao22 t809.length co22, .slice Ao25 t812.length co25, .slice Ao26 t815.length co26] 35 (0, 0)) (la_ BK819)) : gb829 ≠ gb819)); clear HO802; clear HO805; clear HO808; clear HO811; clear HO814; clear HO817; clear HO822; clear HO825; clear HO828; clear BK798; clear BK819; clear HB; have HO802 := n0_; have HO805 := n1_; have HO808 := n2_; have HO811 := n3_; have HO814 := n4_; have HO817 := n5_; have HO822 := n6_; have HO825 := n7_; have HO828 := n8_; have BK798 := n9_; have BK819 := n10_; have HB := n11_; have BK829 := n12_; have GW829 := n13_; have GE829 := n14_; have NB798_829 := n15_; have NB829_798 := n16_; have NB819_829 := n17_; have NB829_819 := n18_; clear n0_ n1_ n2_ n3_ n4_ n5_ n6_ n7_ n8_ n9_ n10_ n11_ n12_ n13_ n14_ n15_ n16_ n17_ n18_; clear hb hbox hg; obtain ⟨Ao30, co30, eo30⟩ := Kd.R_slice HO822.out; subst eo30; have hnb31 := NB829_798.out; have hnc31 := NB798_829.out; have hnb32 := NB829_819.out; have hnc32 := NB819_829.out; have hcz33_0 : w29.cell? ⟨gb829, 0, none⟩ = some (.slice none 0 0) := (blk_cell BK829.out 0).trans rfl; have hcz33_1 : w29.cell? ⟨gb829, 1, none⟩ = some (.slice none 0 0) := (blk_cell BK829.out 1).trans rfl; have hcz33_2 : w29.cell? ⟨gb829, 2, none⟩ = some (.slice none 0 0) := (blk_cell BK829.out 2).trans rfl; have hfz33_0 := blk_frozen BK829.out 0; have hfz33_1 := blk_frozen BK829.out 1; have hfz33_2 := blk_frozen BK829.out 2; obtain ⟨Ao34, co34, eo34⟩ := Kd.R_slice HO825.out; subst eo34; obtain ⟨Ao35, co35, eo35⟩ := Kd.R_slice HO828.out; subst eo35) | ((with_reducible refine gate_callee (f := 40) rfl ?_); refine goesL_ (some 29) rfl rfl Try.func40 (by kernel_rfl) rfl #[.agg #[.slice Ao30 t820.length co30, .slice Ao34 t823.length co34, .slice Ao35 t826.length co35]] rfl args_ ?_; (with_reducible refine (impl_UndoEdit.calls k _ _ t820 _ _ t823 _ _ t826 t830 t833 t836 t839 _ ?side1 ?side2 ?side3 ?side4 ?side5 ?side6 A10.out).mono ?_); (case side1 => refine (Kd.R_reads' (e := 9) (base := w.heap.size) (ok := fun k_ => ((True ∧ some k_ ≠ (.slice Ao17 t800.length co17 : Value).ownBlock) ∧ some k_ ≠ (.slice Ao22 t809.length co22 : Value).ownBlock)) (n := t820.length) (c := co30) ?_).2.2; exact (rf_ (fm_ (fr_ (fr_ (fr_ (ft_ HO822 BK829) 0 (.slice Ao30 t820.length co30)) 1 (.slice Ao34 t823.length co34)) 2 (.slice Ao35 t826.length co35))))); (case side2 => exact (Kd.R_reads' HO822.out).2.1); (case side3 => refine (Kd.R_reads' (e := 25) (base := w.heap.size) (ok := fun k_ => ((((some k_ ≠ (.slice Ao35 t826.length co35 : Value).ownBlock ∧ some k_ ≠ (.slice Ao18 t803.length co18 : Value).ownBlock) ∧ some k_ ≠ (.slice Ao19 t806.length co19 : Value).ownBlock) ∧ some k_ ≠ (.slice Ao25 t812.length co25 : Value).ownBlock) ∧ some k_ ≠ (.slice Ao26 t815.length co26 : Value).ownBlock)) (n := t823.length) (c := co34) ?_).2.2; exact (rf_ (fm_ (fr_ (fr_ (fr_ (ft_ HO825 BK829) 0 (.slice Ao30 t820.length co30)) 1 (.slice Ao34 t823.length co34)) 2 (.slice Ao35 t826.length co35))))); (case side4 => exact (Kd.R_reads' HO825.out).2.1); (case side5 => refine (Kd.R_reads' (e := 25) (base := w.heap.size) (ok := fun k_ => ((((some k_ ≠ (.slice Ao34 t823.length co34 : Value).ownBlock ∧ some k_ ≠ (.slice Ao18 t803.length co18 : Value).ownBlock) ∧ some k_ ≠ (.slice Ao19 t806.length co19 : Value).ownBlock) ∧ some k_ ≠ (.slice Ao25 t812.length co25 : Value).ownBlock) ∧ some k_ ≠ (.slice Ao26 t815.length co26 : Value).ownBlock)) (n := t826.length) (c := co35) ?_).2.2; exact (rf_ (fm_ (fr_ (fr_ (fr_ (ft_ HO828 BK829) 0 (.slice Ao30 t820.length co30)) 1 (.slice Ao34 t823.length co34)) 2 (.slice Ao35 t826.length co35))))); (case side6 => exact (Kd.R_reads' HO828.out).2.1); rintro e w36 ⟨v831, v834, v837, rfl, ho0, ho1, ho2, hb⟩; refine ⟨_, rfl, ?_⟩; have n0_ := Aside0.mk (Kd.R_elder' (rf_ (fm_ (fr_ (fr_ (fr_ (ft_ HO802 BK829) 0 (.slice Ao30 t820.length co30)) 1 (.slice Ao34 t823.length co34)) 2 (.slice Ao35 t826.length co35)))) (Kd.R_base ho0) hb); have n1_ := Aside0.mk (Kd.R_mono (Kd.R_told (Kd.R_told (Kd.R_old (rf_ (fm_ (fr_ (fr_ (fr_ (ft_ HO805 BK829) 0 (.slice Ao30 t820.length co30)) 1 (.slice Ao34 t823.length co34)) 2 (.slice Ao35 t826.length co35)))) hb) (Kd.R_base ho1)) (Kd.R_base ho2)) (fun _ h_ => h_.1)); have n2_ := Aside0.mk (Kd.R_mono (Kd.R_told (Kd.R_told (Kd.R_old (rf_ (fm_ (fr_ (fr_ (fr_ (ft_ HO808 BK829) 0 (.slice Ao30 t820.length co30)) 1 (.slice Ao34 t823.length co34)) 2 (.slice Ao35 t826.length co35)))) hb) (Kd.R_base ho1)) (Kd.R_base ho2)) (fun _ h_ => h_.1)); have n3_ := Aside0.mk (Kd.R_elder' (rf_ (fm_ (fr_ (fr_ (fr_ (ft_ HO811 BK829) 0 (.slice Ao30 t820.length co30)) 1 (.slice Ao34 t823.length co34)) 2 (.slice Ao35 t826.length co35)))) (Kd.R_base ho0) hb); have n4_ := Aside0.mk (Kd.R_mono (Kd.R_told (Kd.R_told (Kd.R_old (rf_ (fm_ (fr_ (fr_ (fr_ (ft_ HO814 BK829) 0 (.slice Ao30 t820.length co30)) 1 (.slice Ao34 t823.length co34)) 2 (.slice Ao35 t826.length co35)))) hb) (Kd.R_base ho1)) (Kd.R_base ho2)) (fun _ h_ => h_.1)); have n5_ := Aside0.mk (Kd.R_mono (Kd.R_told (Kd.R_told (Kd.R_old (rf_ (fm_ (fr_ (fr_ (fr_ (ft_ HO817 BK829) 0 (.slice Ao30 t820.length co30)) 1 (.slice Ao34 t823.length co34)) 2 (.slice Ao35 t826.length co35)))) hb) (Kd.R_base ho1)) (Kd.R_base ho2)) (fun _ h_ => h_.1)); have n6_ := Aside0.mk (Kd.R_elder' (rf_ (fm_ (fr_ (fr_ (fr_ (ft_ HO822 BK829) 0 (.slice Ao30 t820.length co30)) 1 (.slice Ao34 t823.length co34)) 2 (.slice Ao35 t826.length co35)))) (Kd.R_base ho0) hb); have n7_ := Aside0.mk (Kd.R_mono (Kd.R_told (Kd.R_told (Kd.R_old (rf_ (fm_ (fr_ (fr_ (fr_ (ft_ HO825 BK829) 0 (.slice Ao30 t820.length co30)) 1 (.slice Ao34 t823.length co34)) 2 (.slice Ao35 t826.length co35)))) hb) (Kd.R_base ho1)) (Kd.R_base ho2)) (fun _ h_ => h_.1)); have n8_ := Aside0.mk (Kd.R_mono (Kd.R_told (Kd.R_told (Kd.R_old (rf_ (fm_ (fr_ (fr_ (fr_ (ft_ HO828 BK829) 0 (.slice Ao30 t820.length co30)) 1 (.slice Ao34 t823.length co34)) 2 (.slice Ao35 t826.length co35)))) hb) (Kd.R_base ho1)) (Kd.R_base ho2)) (fun _ h_ => h_.1)); have n9_ := Aside0.mk (Kd.R_lower (Kd.R_new' (Kd.R_new' (Kd.R_new' ho0 (Kd.R_lt (rf_ (fm_ (fr_ (fr_ (fr_ (ft_ HO802 BK829) 0 (.slice Ao30 t820.length co30)) 1 (.slice Ao34 t823.length co34)) 2 (.slice Ao35 t826.length co35)))))) (Kd.R_lt (rf_ (fm_ (fr_ (fr_ (fr_ (ft_ HO811 BK829) 0 (.slice Ao30 t820.length co30)) 1 (.slice Ao34 t823.length co34)) 2 (.slice Ao35 t826.length co35)))))) (Kd.R_lt (rf_ (fm_ (fr_ (fr_ (fr_ (ft_ HO822 BK829) 0 (.slice Ao30 t820.length co30)) 1 (.slice Ao34 t823.length co34)) 2 (.slice Ao35 t826.length co35)))))) (below_size (bb3_ HB GE798 GE819 GE829))); have n10_ := Aside0.mk (Kd.R_lower (Kd.R_new' (Kd.R_new' (Kd.R_new' (Kd.R_new' (Kd.R_new' (Kd.R_new' ho1 (Kd.R_lt (rf_ (fm_ (fr_ (fr_ (fr_ (ft_ HO805 BK829) 0 (.slice Ao30 t820.length co30)) 1 (.slice Ao34 t823.length co34)) 2 (.slice Ao35 t826.length co35)))))) (Kd.R_lt (rf_ (fm_ (fr_ (fr_ (fr_ (ft_ HO808 BK829) 0 (.slice Ao30 t820.length co30)) 1 (.slice Ao34 t823.length co34)) 2 (.slice Ao35 t826.length co35)))))) (Kd.R_lt (rf_ (fm_ (fr_ (fr_ (fr_ (ft_ HO814 BK829) 0 (.slice Ao30 t820.length co30)) 1 (.slice Ao34 t823.length co34)) 2 (.slice Ao35 t826.length co35)))))) (Kd.R_lt (rf_ (fm_ (fr_ (fr_ (fr_ (ft_ HO817 BK829) 0 (.slice Ao30 t820.length co30)) 1 (.slice Ao34 t823.length co34)) 2 (.slice Ao35 t826.length co35)))))) (Kd.R_lt (rf_ (fm_ (fr_ (fr_ (fr_ (ft_ HO825 BK829) 0 (.slice Ao30 t820.length co30)) 1 (.slice Ao34 t823.length co34)) 2 (.slice Ao35 t826.length co35)))))) (Kd.R_lt (rf_ (fm_ (fr_ (fr_ (fr_ (ft_ HO828 BK829) 0 (.slice Ao30 t820.length co30)) 1 (.slice Ao34 t823.length co34)) 2 (.slice Ao35 t826.length co35)))))) (below_size (bb3_ HB GE798 GE819 GE829))); have n11_ := Aside0.mk (Kd.R_lower (Kd.R_new' (Kd.R_new' (Kd.R_new' (Kd.R_new' (Kd.R_new' (Kd.R_new' ho2 (Kd.R_lt (rf_ (fm_ (fr_ (fr_ (fr_ (ft_ HO805 BK829) 0 (.slice Ao30 t820.length co30)) 1 (.slice Ao34 t823.length co34)) 2 (.slice Ao35 t826.length co35)))))) (Kd.R_lt (rf_ (fm_ (fr_ (fr_ (fr_ (ft_ HO808 BK829) 0 (.slice Ao30 t820.length co30)) 1 (.slice Ao34 t823.length co34)) 2 (.slice Ao35 t826.length co35)))))) (Kd.R_lt (rf_ (fm_ (fr_ (fr_ (fr_ (ft_ HO814 BK829) 0 (.slice Ao30 t820.length co30)) 1 (.slice Ao34 t823.length co34)) 2 (.slice Ao35 t826.length co35)))))) (Kd.R_lt (rf_ (fm_ (fr_ (fr_ (fr_ (ft_ HO817 BK829) 0 (.slice Ao30 t820.length co30)) 1 (.slice Ao34 t823.length co34)) 2 (.slice Ao35 t826.length co35)))))) (Kd.R_lt (rf_ (fm_ (fr_ (fr_ (fr_ (ft_ HO825 BK829) 0 (.slice Ao30 t820.length co30)) 1 (.slice Ao34 t823.length co34)) 2 (.slice Ao35 t826.length co35)))))) (Kd.R_lt (rf_ (fm_ (fr_ (fr_ (fr_ (ft_ HO828 BK829) 0 (.slice Ao30 t820.length co30)) 1 (.slice Ao34 t823.length co34)) 2 (.slice Ao35 t826.length co35)))))) (below_size (bb3_ HB GE798 GE819 GE829))); have n12_ := Aside0.mk (blk_below (g := gb798) (o := .cells #[.slice A0_0 l0_0.length c0_0, .slice A0_1 l0_1.length c0_1, .slice A0_2 l0_2.length c0_2] 45 (0, 0)) (by (with_reducible repeat (first | apply lN_ | apply lD_ | apply lA_)); refine blk_far ?_ NB798_829.out _; (with_reducible repeat (first | apply lN_ | apply lD_ | apply lA_)); refine blk_far ?_ NB798_829.out _; (with_reducible repeat (first | apply lN_ | apply lD_ | apply lA_)); refine blk_far ?_ NB798_829.out _; (with_reducible repeat (first | apply lN_ | apply lD_ | apply lA_)); exact BK798.out) hb); have n13_ := Aside0.mk (blk_below (g := gb819) (o := .cells #[.slice Ao22 t809.length co22, .slice Ao25 t812.length co25, .slice Ao26 t815.length co26] 35 (0, 0)) (by (with_reducible repeat (first | apply lN_ | apply lD_ | apply lA_)); refine blk_far ?_ NB819_829.out _; (with_reducible repeat (first | apply lN_ | apply lD_ | apply lA_)); refine blk_far ?_ NB819_829.out _; (with_reducible repeat (first | apply lN_ | apply lD_ | apply lA_)); refine blk_far ?_ NB819_829.out _; (with_reducible repeat (first | apply lN_ | apply lD_ | apply lA_)); exact BK819.out) hb); have n14_ := Aside0.mk (blk_below (g := gb829) (o := .cells #[.slice Ao30 t820.length co30, .slice Ao34 t823.length co34, .slice Ao35 t826.length co35] 35 (0, 0)) (by (with_reducible repeat (first | apply lN_ | apply lD_ | apply lA_)); refine blk_put (cs := #[.slice Ao30 t820.length co30, .slice Ao34 t823.length co34, .slice none 0 0]) ?_ 2 _ rfl; (with_reducible repeat (first | apply lN_ | apply lD_ | apply lA_)); refine blk_put (cs := #[.slice Ao30 t820.length co30, .slice none 0 0, .slice none 0 0]) ?_ 1 _ rfl; (with_reducible repeat (first | apply lN_ | apply lD_ | apply lA_)); refine blk_put (cs := #[.slice none 0 0, .slice none 0 0, .slice none 0 0]) ?_ 0 _ rfl; (with_reducible repeat (first | apply lN_ | apply lD_ | apply lA_)); exact BK829.out) hb); have n15_ := Aside0.mk (below_step (bb3_ HB GE798 GE819 GE829) hb); clear HO802; clear HO805; clear HO808; clear HO811; clear HO814; clear HO817; clear HO822; clear HO825; clear HO828; clear BK798; clear BK819; clear BK829; clear HB; have HO802 := n0_; have HO805 := n1_; have HO808 := n2_; have HO811 := n3_; have HO814 := n4_; have HO817 := n5_; have HO822 := n6_; have HO825 := n7_; have HO828 := n8_; have HO832 := n9_; have HO835 := n10_; have HO838 := n11_; have BK798 := n12_; have BK819 := n13_; have BK829 := n14_; have HB := n15_; clear n0_ n1_ n2_ n3_ n4_ n5_ n6_ n7_ n8_ n9_ n10_ n11_ n12_ n13_ n14_ n15_; (try clear hb); (try clear hb2); (try clear hk); (try clear hi); (try clear ho0); (try clear ho1); (try clear ho2)) | ((with_reducible refine gate_dst (N := 7) rfl ?_); refine box_event ?hg (N := 7) ?hd (cs := #[.slice none 0 0, .slice none 0 0, .slice none 0 0]) (t := 35) ?hr ?_; (case hd => rfl); (case hg => rfl); (case hr => first | (go_simp; done) | (go_simp; rfl)); intro gb840 hg w37 hbox hb; have n0_ := Aside0.mk (Kd.R_below (ra_ HO802) hb); have n1_ := Aside0.mk (Kd.R_below (ra_ HO805) hb); have n2_ := Aside0.mk (Kd.R_below (ra_ HO808) hb); have n3_ := Aside0.mk (Kd.R_below (ra_ HO811) hb); have n4_ := Aside0.mk (Kd.R_below (ra_ HO814) hb); have n5_ := Aside0.mk (Kd.R_below (ra_ HO817) hb); have n6_ := Aside0.mk (Kd.R_below (ra_ HO822) hb); have n7_ := Aside0.mk (Kd.R_below (ra_ HO825) hb); have n8_ := Aside0.mk (Kd.R_below (ra_ HO828) hb); have n9_ := Aside0.mk (Kd.R_below (ra_ HO832) hb); have n10_ := Aside0.mk (Kd.R_below (ra_ HO835) hb); have n11_ := Aside0.mk (Kd.R_below (ra_ HO838) hb); have n12_ := Aside0.mk (lb_ BK798 hb); have n13_ := Aside0.mk (lb_ BK819 hb); have n14_ := Aside0.mk (lb_ BK829 hb); have n15_ := Aside0.mk (below_step (bb3_ HB GE798 GE819 GE829) hb); have n16_ := Aside0.mk (hbox); have n17_ := Aside0.mk ((by rw [hg]; exact (below_size (bb3_ HB GE798 GE819 GE829)) : w.heap.size ≤ gb840)); have n18_ := Aside0.mk ((by rw [hg]; exact (below_size (bb3_ HB GE798 GE819 GE829)) : w.heap.size ≤ gb840)); have n19_ := Aside0.mk ((by rw [hg]; exact Nat.ne_of_lt (blk_lt (g := gb798) (o := .cells #[.slice A0_0 l0_0.length c0_0, .slice A0_1 l0_1.length c0_1, .slice A0_2 l0_2.length c0_2] 45 (0, 0)) (la_ BK798)) : gb798 ≠ gb840)); have n20_ := Aside0.mk ((by rw [hg]; exact Nat.ne_of_gt (blk_lt (g := gb798) (o := .cells #[.slice A0_0 l0_0.length c0_0, .slice A0_1 l0_1.length c0_1, .slice A0_2 l0_2.length c0_2] 45 (0, 0)) (la_ BK798)) : gb840 ≠ gb798)); have n21_ := Aside0.mk ((by rw [hg]; exact Nat.ne_of_lt (blk_lt (g := gb819) (o := .cells #[.slice Ao22 t809.length co22, .slice Ao25 t812.length co25, .slice Ao26 t815.length co26] 35 (0, 0)) (la_ BK819)) : gb819 ≠ gb840)); have n22_ := Aside0.mk ((by rw [hg]; exact Nat.ne_of_gt (blk_lt (g := gb819) (o := .cells #[.slice Ao22 t809.length co22, .slice Ao25 t812.length co25, .slice Ao26 t815.length co26] 35 (0, 0)) (la_ BK819)) : gb840 ≠ gb819)); have n23_ := Aside0.mk ((by rw [hg]; exact Nat.ne_of_lt (blk_lt (g := gb829) (o := .cells #[.slice Ao30 t820.length co30, .slice Ao34 t823.length co34, .slice Ao35 t826.length co35] 35 (0, 0)) (la_ BK829)) : gb829 ≠ gb840)); have n24_ := Aside0.mk ((by rw [hg]; exact Nat.ne_of_gt (blk_lt (g := gb829) (o := .cells #[.slice Ao30 t820.length co30, .slice Ao34 t823.length co34, .slice Ao35 t826.length co35] 35 (0, 0)) (la_ BK829)) : gb840 ≠ gb829)); clear HO802; clear HO805; clear HO808; clear HO811; clear HO814; clear HO817; clear HO822; clear HO825; clear HO828; clear HO832; clear HO835; clear HO838; clear BK798; clear BK819; clear BK829; clear HB; have HO802 := n0_; have HO805 := n1_; have HO808 := n2_; have HO811 := n3_; have HO814 := n4_; have HO817 := n5_; have HO822 := n6_; have HO825 := n7_; have HO828 := n8_; have HO832 := n9_; have HO835 := n10_; have HO838 := n11_; have BK798 := n12_; have BK819 := n13_; have BK829 := n14_; have HB := n15_; have BK840 := n16_; have GW840 := n17_; have GE840 := n18_; have NB798_840 := n19_; have NB840_798 := n20_; have NB819_840 := n21_; have NB840_819 := n22_; have NB829_840 := n23_; have NB840_829 := n24_; clear n0_ n1_ n2_ n3_ n4_ n5_ n6_ n7_ n8_ n9_ n10_ n11_ n12_ n13_ n14_ n15_ n16_ n17_ n18_ n19_ n20_ n21_ n22_ n23_ n24_; clear hb hbox hg; obtain ⟨Ao38, co38, eo38⟩ := Kd.R_slice HO832.out; subst eo38; have hnb39 := NB840_798.out; have hnc39 := NB798_840.out; have hnb40 := NB840_819.out; have hnc40 := NB819_840.out; have hnb41 := NB840_829.out; have hnc41 := NB829_840.out; have hcz42_0 : w37.cell? ⟨gb840, 0, none⟩ = some (.slice none 0 0) := (blk_cell BK840.out 0).trans rfl; have hcz42_1 : w37.cell? ⟨gb840, 1, none⟩ = some (.slice none 0 0) := (blk_cell BK840.out 1).trans rfl; have hcz42_2 : w37.cell? ⟨gb840, 2, none⟩ = some (.slice none 0 0) := (blk_cell BK840.out 2).trans rfl; have hfz42_0 := blk_frozen BK840.out 0; have hfz42_1 := blk_frozen BK840.out 1; have hfz42_2 := blk_frozen BK840.out 2; obtain ⟨Ao43, co43, eo43⟩ := Kd.R_slice HO835.out; subst eo43; obtain ⟨Ao44, co44, eo44⟩ := Kd.R_slice HO838.out; subst eo44))
  (try simp only [Act.put, List.setIfInBounds_toArray, List.set_cons_zero, List.set_cons_succ])
  go_cut [40] (fun v40 wc => ∃ (kq : Nat) (x40_10 : Bool), v40 = .bool x40_10 ∧ Aside0 (laws_FnExactUndoEdit.j0 kq t818 t839 x40_10 l0_0 l0_1 l0_2 t809 t812 t815 t820 t823 t826 t830 t833 t836 = some r) ∧ Aside0 (kq ≤ k) ∧ Aside0 (Kd.R Kd.string 9 wc w.heap.size (fun k_ => some k_ ≠ ((.slice Ao30 t820.length co30) : Value).ownBlock ∧ some k_ ≠ ((.slice Ao38 t830.length co38) : Value).ownBlock) (.slice Ao22 t809.length co22) t809) ∧ Aside0 (Kd.R k25 25 wc w.heap.size (fun k_ => some k_ ≠ ((.slice Ao26 t815.length co26) : Value).ownBlock ∧ some k_ ≠ ((.slice Ao34 t823.length co34) : Value).ownBlock ∧ some k_ ≠ ((.slice Ao35 t826.length co35) : Value).ownBlock ∧ some k_ ≠ ((.slice Ao43 t833.length co43) : Value).ownBlock ∧ some k_ ≠ ((.slice Ao44 t836.length co44) : Value).ownBlock) (.slice Ao25 t812.length co25) t812) ∧ Aside0 (Kd.R k25 25 wc w.heap.size (fun k_ => some k_ ≠ ((.slice Ao25 t812.length co25) : Value).ownBlock ∧ some k_ ≠ ((.slice Ao34 t823.length co34) : Value).ownBlock ∧ some k_ ≠ ((.slice Ao35 t826.length co35) : Value).ownBlock ∧ some k_ ≠ ((.slice Ao43 t833.length co43) : Value).ownBlock ∧ some k_ ≠ ((.slice Ao44 t836.length co44) : Value).ownBlock) (.slice Ao26 t815.length co26) t815) ∧ Aside0 (Kd.R Kd.string 9 wc w.heap.size (fun k_ => some k_ ≠ ((.slice Ao22 t809.length co22) : Value).ownBlock ∧ some k_ ≠ ((.slice Ao38 t830.length co38) : Value).ownBlock) (.slice Ao30 t820.length co30) t820) ∧ Aside0 (Kd.R k25 25 wc w.heap.size (fun k_ => some k_ ≠ ((.slice Ao25 t812.length co25) : Value).ownBlock ∧ some k_ ≠ ((.slice Ao26 t815.length co26) : Value).ownBlock ∧ some k_ ≠ ((.slice Ao35 t826.length co35) : Value).ownBlock ∧ some k_ ≠ ((.slice Ao43 t833.length co43) : Value).ownBlock ∧ some k_ ≠ ((.slice Ao44 t836.length co44) : Value).ownBlock) (.slice Ao34 t823.length co34) t823) ∧ Aside0 (Kd.R k25 25 wc w.heap.size (fun k_ => some k_ ≠ ((.slice Ao25 t812.length co25) : Value).ownBlock ∧ some k_ ≠ ((.slice Ao26 t815.length co26) : Value).ownBlock ∧ some k_ ≠ ((.slice Ao34 t823.length co34) : Value).ownBlock ∧ some k_ ≠ ((.slice Ao43 t833.length co43) : Value).ownBlock ∧ some k_ ≠ ((.slice Ao44 t836.length co44) : Value).ownBlock) (.slice Ao35 t826.length co35) t826) ∧ Aside0 (Kd.R Kd.string 9 wc w.heap.size (fun k_ => some k_ ≠ ((.slice Ao22 t809.length co22) : Value).ownBlock ∧ some k_ ≠ ((.slice Ao30 t820.length co30) : Value).ownBlock) (.slice Ao38 t830.length co38) t830) ∧ Aside0 (Kd.R k25 25 wc w.heap.size (fun k_ => some k_ ≠ ((.slice Ao25 t812.length co25) : Value).ownBlock ∧ some k_ ≠ ((.slice Ao26 t815.length co26) : Value).ownBlock ∧ some k_ ≠ ((.slice Ao34 t823.length co34) : Value).ownBlock ∧ some k_ ≠ ((.slice Ao35 t826.length co35) : Value).ownBlock ∧ some k_ ≠ ((.slice Ao44 t836.length co44) : Value).ownBlock) (.slice Ao43 t833.length co43) t833) ∧ Aside0 (Kd.R k25 25 wc w.heap.size (fun k_ => some k_ ≠ ((.slice Ao25 t812.length co25) : Value).ownBlock ∧ some k_ ≠ ((.slice Ao26 t815.length co26) : Value).ownBlock ∧ some k_ ≠ ((.slice Ao34 t823.length co34) : Value).ownBlock ∧ some k_ ≠ ((.slice Ao35 t826.length co35) : Value).ownBlock ∧ some k_ ≠ ((.slice Ao43 t833.length co43) : Value).ownBlock) (.slice Ao44 t836.length co44) t836) ∧ Aside0 (wc.heap[gb798]? = some (.cells #[(.slice A0_0 l0_0.length c0_0), (.slice A0_1 l0_1.length c0_1), (.slice A0_2 l0_2.length c0_2)] 45 (0, 0))) ∧ Aside0 (wc.heap[gb819]? = some (.cells #[(.slice Ao22 t809.length co22), (.slice Ao25 t812.length co25), (.slice Ao26 t815.length co26)] 35 (0, 0))) ∧ Aside0 (wc.heap[gb829]? = some (.cells #[(.slice Ao30 t820.length co30), (.slice Ao34 t823.length co34), (.slice Ao35 t826.length co35)] 35 (0, 0))) ∧ Aside0 (wc.heap[gb840]? = some (.cells #[(.slice Ao38 t830.length co38), (.slice Ao43 t833.length co43), (.slice Ao44 t836.length co44)] 35 (0, 0))) ∧ Aside0 (Below w.heap.size w wc))
  case first =>
   have H := HC11.out
   clear HC11
   replace H := Option.bind_eq_some_iff.mp H
   obtain ⟨t841, A450, H⟩ := H
   try dsimp only at H
   have A45 := Aside0.mk A450
   clear A450
   by_cases c46 : t841 = true
   ·subst c46
    have H1 : (laws_FnExactUndoEdit.j0 k t818 t839 (t839 != t818) l0_0 l0_1 l0_2 t809 t812 t815 t820 t823 t826 t830 t833 t836) = some r := by rw [if_pos rfl] at H; exact H
    clear H
    have H := H1
    clear H1
    have H' := Aside0.mk H
    clear H
    have hnb47 := NB840_798.out
    have hnc47 := NB798_840.out
    have hnb48 := NB840_819.out
    have hnc48 := NB819_840.out
    have hnb49 := NB840_829.out
    have hnc49 := NB829_840.out
    have hcz50_0 : w37.cell? ⟨gb840, 0, none⟩ = some (.slice none 0 0) := (blk_cell BK840.out 0).trans rfl
    have hcz50_1 : w37.cell? ⟨gb840, 1, none⟩ = some (.slice none 0 0) := (blk_cell BK840.out 1).trans rfl
    have hcz50_2 : w37.cell? ⟨gb840, 2, none⟩ = some (.slice none 0 0) := (blk_cell BK840.out 2).trans rfl
    have hfz50_0 := blk_frozen BK840.out 0
    have hfz50_1 := blk_frozen BK840.out 1
    have hfz50_2 := blk_frozen BK840.out 2
    have hnb51 := NB819_798.out
    have hnc51 := NB798_819.out
    have hnb52 := NB819_829.out
    have hnc52 := NB829_819.out
    have hcz53_0 : w37.cell? ⟨gb819, 0, none⟩ = some (.slice Ao22 t809.length co22) := (blk_cell BK819.out 0).trans rfl
    have hcz53_1 : w37.cell? ⟨gb819, 1, none⟩ = some (.slice Ao25 t812.length co25) := (blk_cell BK819.out 1).trans rfl
    have hcz53_2 : w37.cell? ⟨gb819, 2, none⟩ = some (.slice Ao26 t815.length co26) := (blk_cell BK819.out 2).trans rfl
    have hfz53_0 := blk_frozen BK819.out 0
    have hfz53_1 := blk_frozen BK819.out 1
    have hfz53_2 := blk_frozen BK819.out 2
    go_wp2_with (first | ((with_reducible refine gate_callee (f := 23) rfl ?_); refine goesL_ (some 34) rfl rfl Try.func23 (by kernel_rfl) rfl #[.agg #[.slice Ao38 t830.length co38, .slice Ao43 t833.length co43, .slice Ao44 t836.length co44], .agg #[.slice Ao22 t809.length co22, .slice Ao25 t812.length co25, .slice Ao26 t815.length co26]] rfl args_ ?_; (with_reducible refine (laws_eqDesk.calls k _ _ t830 _ _ t833 _ _ t836 _ _ t809 _ _ t812 _ _ t815 true _ ?side1 ?side2 ?side3 ?side4 ?side5 ?side6 ?side7 ?side8 ?side9 ?side10 ?side11 ?side12 A45.out).mono ?_); (case side1 => refine (Kd.R_reads' (e := 9) (base := w.heap.size) (ok := fun k_ => (((True ∧ some k_ ≠ (.slice Ao17 t800.length co17 : Value).ownBlock) ∧ some k_ ≠ (.slice Ao22 t809.length co22 : Value).ownBlock) ∧ some k_ ≠ (.slice Ao30 t820.length co30 : Value).ownBlock)) (n := t830.length) (c := co38) ?_).2.2; exact (rf_ (fm_ (fr_ (fr_ (fr_ (ft_ HO832 BK840) 0 (.slice Ao38 t830.length co38)) 1 (.slice Ao43 t833.length co43)) 2 (.slice Ao44 t836.length co44))))); (case side2 => exact (Kd.R_reads' HO832.out).2.1); (case side3 => refine (Kd.R_reads' (e := 25) (base := w.heap.size) (ok := fun k_ => ((((((some k_ ≠ (.slice Ao44 t836.length co44 : Value).ownBlock ∧ some k_ ≠ (.slice Ao18 t803.length co18 : Value).ownBlock) ∧ some k_ ≠ (.slice Ao19 t806.length co19 : Value).ownBlock) ∧ some k_ ≠ (.slice Ao25 t812.length co25 : Value).ownBlock) ∧ some k_ ≠ (.slice Ao26 t815.length co26 : Value).ownBlock) ∧ some k_ ≠ (.slice Ao34 t823.length co34 : Value).ownBlock) ∧ some k_ ≠ (.slice Ao35 t826.length co35 : Value).ownBlock)) (n := t833.length) (c := co43) ?_).2.2; exact (rf_ (fm_ (fr_ (fr_ (fr_ (ft_ HO835 BK840) 0 (.slice Ao38 t830.length co38)) 1 (.slice Ao43 t833.length co43)) 2 (.slice Ao44 t836.length co44))))); (case side4 => exact (Kd.R_reads' HO835.out).2.1); (case side5 => refine (Kd.R_reads' (e := 25) (base := w.heap.size) (ok := fun k_ => ((((((some k_ ≠ (.slice Ao43 t833.length co43 : Value).ownBlock ∧ some k_ ≠ (.slice Ao18 t803.length co18 : Value).ownBlock) ∧ some k_ ≠ (.slice Ao19 t806.length co19 : Value).ownBlock) ∧ some k_ ≠ (.slice Ao25 t812.length co25 : Value).ownBlock) ∧ some k_ ≠ (.slice Ao26 t815.length co26 : Value).ownBlock) ∧ some k_ ≠ (.slice Ao34 t823.length co34 : Value).ownBlock) ∧ some k_ ≠ (.slice Ao35 t826.length co35 : Value).ownBlock)) (n := t836.length) (c := co44) ?_).2.2; exact (rf_ (fm_ (fr_ (fr_ (fr_ (ft_ HO838 BK840) 0 (.slice Ao38 t830.length co38)) 1 (.slice Ao43 t833.length co43)) 2 (.slice Ao44 t836.length co44))))); (case side6 => exact (Kd.R_reads' HO838.out).2.1); (case side7 => refine (Kd.R_reads' (e := 9) (base := w.heap.size) (ok := fun k_ => (((True ∧ some k_ ≠ (.slice Ao17 t800.length co17 : Value).ownBlock) ∧ some k_ ≠ (.slice Ao30 t820.length co30 : Value).ownBlock) ∧ some k_ ≠ (.slice Ao38 t830.length co38 : Value).ownBlock)) (n := t809.length) (c := co22) ?_).2.2; exact (rf_ (fm_ (fr_ (fr_ (fr_ (ft_ HO811 BK840) 0 (.slice Ao38 t830.length co38)) 1 (.slice Ao43 t833.length co43)) 2 (.slice Ao44 t836.length co44))))); (case side8 => exact (Kd.R_reads' HO811.out).2.1); (case side9 => refine (Kd.R_reads' (e := 25) (base := w.heap.size) (ok := fun k_ => ((((((some k_ ≠ (.slice Ao26 t815.length co26 : Value).ownBlock ∧ some k_ ≠ (.slice Ao18 t803.length co18 : Value).ownBlock) ∧ some k_ ≠ (.slice Ao19 t806.length co19 : Value).ownBlock) ∧ some k_ ≠ (.slice Ao34 t823.length co34 : Value).ownBlock) ∧ some k_ ≠ (.slice Ao35 t826.length co35 : Value).ownBlock) ∧ some k_ ≠ (.slice Ao43 t833.length co43 : Value).ownBlock) ∧ some k_ ≠ (.slice Ao44 t836.length co44 : Value).ownBlock)) (n := t812.length) (c := co25) ?_).2.2; exact (rf_ (fm_ (fr_ (fr_ (fr_ (ft_ HO814 BK840) 0 (.slice Ao38 t830.length co38)) 1 (.slice Ao43 t833.length co43)) 2 (.slice Ao44 t836.length co44))))); (case side10 => exact (Kd.R_reads' HO814.out).2.1); (case side11 => refine (Kd.R_reads' (e := 25) (base := w.heap.size) (ok := fun k_ => ((((((some k_ ≠ (.slice Ao25 t812.length co25 : Value).ownBlock ∧ some k_ ≠ (.slice Ao18 t803.length co18 : Value).ownBlock) ∧ some k_ ≠ (.slice Ao19 t806.length co19 : Value).ownBlock) ∧ some k_ ≠ (.slice Ao34 t823.length co34 : Value).ownBlock) ∧ some k_ ≠ (.slice Ao35 t826.length co35 : Value).ownBlock) ∧ some k_ ≠ (.slice Ao43 t833.length co43 : Value).ownBlock) ∧ some k_ ≠ (.slice Ao44 t836.length co44 : Value).ownBlock)) (n := t815.length) (c := co26) ?_).2.2; exact (rf_ (fm_ (fr_ (fr_ (fr_ (ft_ HO817 BK840) 0 (.slice Ao38 t830.length co38)) 1 (.slice Ao43 t833.length co43)) 2 (.slice Ao44 t836.length co44))))); (case side12 => exact (Kd.R_reads' HO817.out).2.1); rintro e w54 ⟨rfl, hb⟩; refine ⟨_, rfl, ?_⟩; have n0_ := Aside0.mk (Kd.R_below (rf_ (fm_ (fr_ (fr_ (fr_ (ft_ HO802 BK840) 0 (.slice Ao38 t830.length co38)) 1 (.slice Ao43 t833.length co43)) 2 (.slice Ao44 t836.length co44)))) hb); have n1_ := Aside0.mk (Kd.R_below (rf_ (fm_ (fr_ (fr_ (fr_ (ft_ HO805 BK840) 0 (.slice Ao38 t830.length co38)) 1 (.slice Ao43 t833.length co43)) 2 (.slice Ao44 t836.length co44)))) hb); have n2_ := Aside0.mk (Kd.R_below (rf_ (fm_ (fr_ (fr_ (fr_ (ft_ HO808 BK840) 0 (.slice Ao38 t830.length co38)) 1 (.slice Ao43 t833.length co43)) 2 (.slice Ao44 t836.length co44)))) hb); have n3_ := Aside0.mk (Kd.R_below (rf_ (fm_ (fr_ (fr_ (fr_ (ft_ HO811 BK840) 0 (.slice Ao38 t830.length co38)) 1 (.slice Ao43 t833.length co43)) 2 (.slice Ao44 t836.length co44)))) hb); have n4_ := Aside0.mk (Kd.R_below (rf_ (fm_ (fr_ (fr_ (fr_ (ft_ HO814 BK840) 0 (.slice Ao38 t830.length co38)) 1 (.slice Ao43 t833.length co43)) 2 (.slice Ao44 t836.length co44)))) hb); have n5_ := Aside0.mk (Kd.R_below (rf_ (fm_ (fr_ (fr_ (fr_ (ft_ HO817 BK840) 0 (.slice Ao38 t830.length co38)) 1 (.slice Ao43 t833.length co43)) 2 (.slice Ao44 t836.length co44)))) hb); have n6_ := Aside0.mk (Kd.R_below (rf_ (fm_ (fr_ (fr_ (fr_ (ft_ HO822 BK840) 0 (.slice Ao38 t830.length co38)) 1 (.slice Ao43 t833.length co43)) 2 (.slice Ao44 t836.length co44)))) hb); have n7_ := Aside0.mk (Kd.R_below (rf_ (fm_ (fr_ (fr_ (fr_ (ft_ HO825 BK840) 0 (.slice Ao38 t830.length co38)) 1 (.slice Ao43 t833.length co43)) 2 (.slice Ao44 t836.length co44)))) hb); have n8_ := Aside0.mk (Kd.R_below (rf_ (fm_ (fr_ (fr_ (fr_ (ft_ HO828 BK840) 0 (.slice Ao38 t830.length co38)) 1 (.slice Ao43 t833.length co43)) 2 (.slice Ao44 t836.length co44)))) hb); have n9_ := Aside0.mk (Kd.R_below (rf_ (fm_ (fr_ (fr_ (fr_ (ft_ HO832 BK840) 0 (.slice Ao38 t830.length co38)) 1 (.slice Ao43 t833.length co43)) 2 (.slice Ao44 t836.length co44)))) hb); have n10_ := Aside0.mk (Kd.R_below (rf_ (fm_ (fr_ (fr_ (fr_ (ft_ HO835 BK840) 0 (.slice Ao38 t830.length co38)) 1 (.slice Ao43 t833.length co43)) 2 (.slice Ao44 t836.length co44)))) hb); have n11_ := Aside0.mk (Kd.R_below (rf_ (fm_ (fr_ (fr_ (fr_ (ft_ HO838 BK840) 0 (.slice Ao38 t830.length co38)) 1 (.slice Ao43 t833.length co43)) 2 (.slice Ao44 t836.length co44)))) hb); have n12_ := Aside0.mk (blk_below (g := gb798) (o := .cells #[.slice A0_0 l0_0.length c0_0, .slice A0_1 l0_1.length c0_1, .slice A0_2 l0_2.length c0_2] 45 (0, 0)) (by (with_reducible repeat (first | apply lN_ | apply lD_ | apply lA_)); refine blk_far ?_ NB798_840.out _; (with_reducible repeat (first | apply lN_ | apply lD_ | apply lA_)); refine blk_far ?_ NB798_840.out _; (with_reducible repeat (first | apply lN_ | apply lD_ | apply lA_)); refine blk_far ?_ NB798_840.out _; (with_reducible repeat (first | apply lN_ | apply lD_ | apply lA_)); exact BK798.out) hb); have n13_ := Aside0.mk (blk_below (g := gb819) (o := .cells #[.slice Ao22 t809.length co22, .slice Ao25 t812.length co25, .slice Ao26 t815.length co26] 35 (0, 0)) (by (with_reducible repeat (first | apply lN_ | apply lD_ | apply lA_)); refine blk_far ?_ NB819_840.out _; (with_reducible repeat (first | apply lN_ | apply lD_ | apply lA_)); refine blk_far ?_ NB819_840.out _; (with_reducible repeat (first | apply lN_ | apply lD_ | apply lA_)); refine blk_far ?_ NB819_840.out _; (with_reducible repeat (first | apply lN_ | apply lD_ | apply lA_)); exact BK819.out) hb); have n14_ := Aside0.mk (blk_below (g := gb829) (o := .cells #[.slice Ao30 t820.length co30, .slice Ao34 t823.length co34, .slice Ao35 t826.length co35] 35 (0, 0)) (by (with_reducible repeat (first | apply lN_ | apply lD_ | apply lA_)); refine blk_far ?_ NB829_840.out _; (with_reducible repeat (first | apply lN_ | apply lD_ | apply lA_)); refine blk_far ?_ NB829_840.out _; (with_reducible repeat (first | apply lN_ | apply lD_ | apply lA_)); refine blk_far ?_ NB829_840.out _; (with_reducible repeat (first | apply lN_ | apply lD_ | apply lA_)); exact BK829.out) hb); have n15_ := Aside0.mk (blk_below (g := gb840) (o := .cells #[.slice Ao38 t830.length co38, .slice Ao43 t833.length co43, .slice Ao44 t836.length co44] 35 (0, 0)) (by (with_reducible repeat (first | apply lN_ | apply lD_ | apply lA_)); refine blk_put (cs := #[.slice Ao38 t830.length co38, .slice Ao43 t833.length co43, .slice none 0 0]) ?_ 2 _ rfl; (with_reducible repeat (first | apply lN_ | apply lD_ | apply lA_)); refine blk_put (cs := #[.slice Ao38 t830.length co38, .slice none 0 0, .slice none 0 0]) ?_ 1 _ rfl; (with_reducible repeat (first | apply lN_ | apply lD_ | apply lA_)); refine blk_put (cs := #[.slice none 0 0, .slice none 0 0, .slice none 0 0]) ?_ 0 _ rfl; (with_reducible repeat (first | apply lN_ | apply lD_ | apply lA_)); exact BK840.out) hb); have n16_ := Aside0.mk (below_step (bb4_ HB GE798 GE819 GE829 GE840) hb); clear HO802; clear HO805; clear HO808; clear HO811; clear HO814; clear HO817; clear HO822; clear HO825; clear HO828; clear HO832; clear HO835; clear HO838; clear BK798; clear BK819; clear BK829; clear BK840; clear HB; have HO802 := n0_; have HO805 := n1_; have HO808 := n2_; have HO811 := n3_; have HO814 := n4_; have HO817 := n5_; have HO822 := n6_; have HO825 := n7_; have HO828 := n8_; have HO832 := n9_; have HO835 := n10_; have HO838 := n11_; have BK798 := n12_; have BK819 := n13_; have BK829 := n14_; have BK840 := n15_; have HB := n16_; clear n0_ n1_ n2_ n3_ n4_ n5_ n6_ n7_ n8_ n9_ n10_ n11_ n12_ n13_ n14_ n15_ n16_; (try clear hb); (try clear hb2); (try clear hk); (try clear hi)))
    go_meet
    case rel => exact ⟨_, ((t839 != t818)), (by first | rfl | (simp; done) | (simp [*]; done)), H', ⟨by first | omega | exact Nat.le_refl _⟩, ⟨by (with_reducible repeat (first | apply rA_ | apply rN_ | apply rD_)); exact Kd.R_mono HO811.out (fun _ hk => ⟨hk.1.2, hk.2⟩)⟩, ⟨by (with_reducible repeat (first | apply rA_ | apply rN_ | apply rD_)); exact Kd.R_mono HO814.out (fun _ hk => ⟨hk.1.1.1.1.1.1, ⟨hk.1.1.1.2, ⟨hk.1.1.2, ⟨hk.1.2, hk.2⟩⟩⟩⟩)⟩, ⟨by (with_reducible repeat (first | apply rA_ | apply rN_ | apply rD_)); exact Kd.R_mono HO817.out (fun _ hk => ⟨hk.1.1.1.1.1.1, ⟨hk.1.1.1.2, ⟨hk.1.1.2, ⟨hk.1.2, hk.2⟩⟩⟩⟩)⟩, ⟨by (with_reducible repeat (first | apply rA_ | apply rN_ | apply rD_)); exact Kd.R_mono HO822.out (fun _ hk => ⟨hk.1.2, hk.2⟩)⟩, ⟨by (with_reducible repeat (first | apply rA_ | apply rN_ | apply rD_)); exact Kd.R_mono HO825.out (fun _ hk => ⟨hk.1.1.1.2, ⟨hk.1.1.2, ⟨hk.1.1.1.1.1.1, ⟨hk.1.2, hk.2⟩⟩⟩⟩)⟩, ⟨by (with_reducible repeat (first | apply rA_ | apply rN_ | apply rD_)); exact Kd.R_mono HO828.out (fun _ hk => ⟨hk.1.1.1.2, ⟨hk.1.1.2, ⟨hk.1.1.1.1.1.1, ⟨hk.1.2, hk.2⟩⟩⟩⟩)⟩, ⟨by (with_reducible repeat (first | apply rA_ | apply rN_ | apply rD_)); exact Kd.R_mono HO832.out (fun _ hk => ⟨hk.1.2, hk.2⟩)⟩, ⟨by (with_reducible repeat (first | apply rA_ | apply rN_ | apply rD_)); exact Kd.R_mono HO835.out (fun _ hk => ⟨hk.1.1.1.2, ⟨hk.1.1.2, ⟨hk.1.2, ⟨hk.2, hk.1.1.1.1.1.1⟩⟩⟩⟩)⟩, ⟨by (with_reducible repeat (first | apply rA_ | apply rN_ | apply rD_)); exact Kd.R_mono HO838.out (fun _ hk => ⟨hk.1.1.1.2, ⟨hk.1.1.2, ⟨hk.1.2, ⟨hk.2, hk.1.1.1.1.1.1⟩⟩⟩⟩)⟩, ⟨by (with_reducible repeat (first | apply lN_ | apply lD_ | apply lA_)); exact BK798.out⟩, ⟨by (with_reducible repeat (first | apply lN_ | apply lD_ | apply lA_)); exact BK819.out⟩, ⟨by (with_reducible repeat (first | apply lN_ | apply lD_ | apply lA_)); exact BK829.out⟩, ⟨by (with_reducible repeat (first | apply lN_ | apply lD_ | apply lA_)); exact BK840.out⟩, ⟨bb4_ HB GE798 GE819 GE829 GE840⟩⟩
   ·replace c46 := Bool.eq_false_iff.mpr c46
    subst c46
    have H1 : (laws_FnExactUndoEdit.j0 k t818 t839 true l0_0 l0_1 l0_2 t809 t812 t815 t820 t823 t826 t830 t833 t836) = some r := by rw [if_neg (show ¬ (false = true) by decide)] at H; exact H
    clear H
    have H := H1
    clear H1
    have H' := Aside0.mk H
    clear H
    have hnb55 := NB840_798.out
    have hnc55 := NB798_840.out
    have hnb56 := NB840_819.out
    have hnc56 := NB819_840.out
    have hnb57 := NB840_829.out
    have hnc57 := NB829_840.out
    have hcz58_0 : w37.cell? ⟨gb840, 0, none⟩ = some (.slice none 0 0) := (blk_cell BK840.out 0).trans rfl
    have hcz58_1 : w37.cell? ⟨gb840, 1, none⟩ = some (.slice none 0 0) := (blk_cell BK840.out 1).trans rfl
    have hcz58_2 : w37.cell? ⟨gb840, 2, none⟩ = some (.slice none 0 0) := (blk_cell BK840.out 2).trans rfl
    have hfz58_0 := blk_frozen BK840.out 0
    have hfz58_1 := blk_frozen BK840.out 1
    have hfz58_2 := blk_frozen BK840.out 2
    have hnb59 := NB819_798.out
    have hnc59 := NB798_819.out
    have hnb60 := NB819_829.out
    have hnc60 := NB829_819.out
    have hcz61_0 : w37.cell? ⟨gb819, 0, none⟩ = some (.slice Ao22 t809.length co22) := (blk_cell BK819.out 0).trans rfl
    have hcz61_1 : w37.cell? ⟨gb819, 1, none⟩ = some (.slice Ao25 t812.length co25) := (blk_cell BK819.out 1).trans rfl
    have hcz61_2 : w37.cell? ⟨gb819, 2, none⟩ = some (.slice Ao26 t815.length co26) := (blk_cell BK819.out 2).trans rfl
    have hfz61_0 := blk_frozen BK819.out 0
    have hfz61_1 := blk_frozen BK819.out 1
    have hfz61_2 := blk_frozen BK819.out 2
    go_wp2_with (first | ((with_reducible refine gate_callee (f := 23) rfl ?_); refine goesL_ (some 34) rfl rfl Try.func23 (by kernel_rfl) rfl #[.agg #[.slice Ao38 t830.length co38, .slice Ao43 t833.length co43, .slice Ao44 t836.length co44], .agg #[.slice Ao22 t809.length co22, .slice Ao25 t812.length co25, .slice Ao26 t815.length co26]] rfl args_ ?_; (with_reducible refine (laws_eqDesk.calls k _ _ t830 _ _ t833 _ _ t836 _ _ t809 _ _ t812 _ _ t815 false _ ?side1 ?side2 ?side3 ?side4 ?side5 ?side6 ?side7 ?side8 ?side9 ?side10 ?side11 ?side12 A45.out).mono ?_); (case side1 => refine (Kd.R_reads' (e := 9) (base := w.heap.size) (ok := fun k_ => (((True ∧ some k_ ≠ (.slice Ao17 t800.length co17 : Value).ownBlock) ∧ some k_ ≠ (.slice Ao22 t809.length co22 : Value).ownBlock) ∧ some k_ ≠ (.slice Ao30 t820.length co30 : Value).ownBlock)) (n := t830.length) (c := co38) ?_).2.2; exact (rf_ (fm_ (fr_ (fr_ (fr_ (ft_ HO832 BK840) 0 (.slice Ao38 t830.length co38)) 1 (.slice Ao43 t833.length co43)) 2 (.slice Ao44 t836.length co44))))); (case side2 => exact (Kd.R_reads' HO832.out).2.1); (case side3 => refine (Kd.R_reads' (e := 25) (base := w.heap.size) (ok := fun k_ => ((((((some k_ ≠ (.slice Ao44 t836.length co44 : Value).ownBlock ∧ some k_ ≠ (.slice Ao18 t803.length co18 : Value).ownBlock) ∧ some k_ ≠ (.slice Ao19 t806.length co19 : Value).ownBlock) ∧ some k_ ≠ (.slice Ao25 t812.length co25 : Value).ownBlock) ∧ some k_ ≠ (.slice Ao26 t815.length co26 : Value).ownBlock) ∧ some k_ ≠ (.slice Ao34 t823.length co34 : Value).ownBlock) ∧ some k_ ≠ (.slice Ao35 t826.length co35 : Value).ownBlock)) (n := t833.length) (c := co43) ?_).2.2; exact (rf_ (fm_ (fr_ (fr_ (fr_ (ft_ HO835 BK840) 0 (.slice Ao38 t830.length co38)) 1 (.slice Ao43 t833.length co43)) 2 (.slice Ao44 t836.length co44))))); (case side4 => exact (Kd.R_reads' HO835.out).2.1); (case side5 => refine (Kd.R_reads' (e := 25) (base := w.heap.size) (ok := fun k_ => ((((((some k_ ≠ (.slice Ao43 t833.length co43 : Value).ownBlock ∧ some k_ ≠ (.slice Ao18 t803.length co18 : Value).ownBlock) ∧ some k_ ≠ (.slice Ao19 t806.length co19 : Value).ownBlock) ∧ some k_ ≠ (.slice Ao25 t812.length co25 : Value).ownBlock) ∧ some k_ ≠ (.slice Ao26 t815.length co26 : Value).ownBlock) ∧ some k_ ≠ (.slice Ao34 t823.length co34 : Value).ownBlock) ∧ some k_ ≠ (.slice Ao35 t826.length co35 : Value).ownBlock)) (n := t836.length) (c := co44) ?_).2.2; exact (rf_ (fm_ (fr_ (fr_ (fr_ (ft_ HO838 BK840) 0 (.slice Ao38 t830.length co38)) 1 (.slice Ao43 t833.length co43)) 2 (.slice Ao44 t836.length co44))))); (case side6 => exact (Kd.R_reads' HO838.out).2.1); (case side7 => refine (Kd.R_reads' (e := 9) (base := w.heap.size) (ok := fun k_ => (((True ∧ some k_ ≠ (.slice Ao17 t800.length co17 : Value).ownBlock) ∧ some k_ ≠ (.slice Ao30 t820.length co30 : Value).ownBlock) ∧ some k_ ≠ (.slice Ao38 t830.length co38 : Value).ownBlock)) (n := t809.length) (c := co22) ?_).2.2; exact (rf_ (fm_ (fr_ (fr_ (fr_ (ft_ HO811 BK840) 0 (.slice Ao38 t830.length co38)) 1 (.slice Ao43 t833.length co43)) 2 (.slice Ao44 t836.length co44))))); (case side8 => exact (Kd.R_reads' HO811.out).2.1); (case side9 => refine (Kd.R_reads' (e := 25) (base := w.heap.size) (ok := fun k_ => ((((((some k_ ≠ (.slice Ao26 t815.length co26 : Value).ownBlock ∧ some k_ ≠ (.slice Ao18 t803.length co18 : Value).ownBlock) ∧ some k_ ≠ (.slice Ao19 t806.length co19 : Value).ownBlock) ∧ some k_ ≠ (.slice Ao34 t823.length co34 : Value).ownBlock) ∧ some k_ ≠ (.slice Ao35 t826.length co35 : Value).ownBlock) ∧ some k_ ≠ (.slice Ao43 t833.length co43 : Value).ownBlock) ∧ some k_ ≠ (.slice Ao44 t836.length co44 : Value).ownBlock)) (n := t812.length) (c := co25) ?_).2.2; exact (rf_ (fm_ (fr_ (fr_ (fr_ (ft_ HO814 BK840) 0 (.slice Ao38 t830.length co38)) 1 (.slice Ao43 t833.length co43)) 2 (.slice Ao44 t836.length co44))))); (case side10 => exact (Kd.R_reads' HO814.out).2.1); (case side11 => refine (Kd.R_reads' (e := 25) (base := w.heap.size) (ok := fun k_ => ((((((some k_ ≠ (.slice Ao25 t812.length co25 : Value).ownBlock ∧ some k_ ≠ (.slice Ao18 t803.length co18 : Value).ownBlock) ∧ some k_ ≠ (.slice Ao19 t806.length co19 : Value).ownBlock) ∧ some k_ ≠ (.slice Ao34 t823.length co34 : Value).ownBlock) ∧ some k_ ≠ (.slice Ao35 t826.length co35 : Value).ownBlock) ∧ some k_ ≠ (.slice Ao43 t833.length co43 : Value).ownBlock) ∧ some k_ ≠ (.slice Ao44 t836.length co44 : Value).ownBlock)) (n := t815.length) (c := co26) ?_).2.2; exact (rf_ (fm_ (fr_ (fr_ (fr_ (ft_ HO817 BK840) 0 (.slice Ao38 t830.length co38)) 1 (.slice Ao43 t833.length co43)) 2 (.slice Ao44 t836.length co44))))); (case side12 => exact (Kd.R_reads' HO817.out).2.1); rintro e w62 ⟨rfl, hb⟩; refine ⟨_, rfl, ?_⟩; have n0_ := Aside0.mk (Kd.R_below (rf_ (fm_ (fr_ (fr_ (fr_ (ft_ HO802 BK840) 0 (.slice Ao38 t830.length co38)) 1 (.slice Ao43 t833.length co43)) 2 (.slice Ao44 t836.length co44)))) hb); have n1_ := Aside0.mk (Kd.R_below (rf_ (fm_ (fr_ (fr_ (fr_ (ft_ HO805 BK840) 0 (.slice Ao38 t830.length co38)) 1 (.slice Ao43 t833.length co43)) 2 (.slice Ao44 t836.length co44)))) hb); have n2_ := Aside0.mk (Kd.R_below (rf_ (fm_ (fr_ (fr_ (fr_ (ft_ HO808 BK840) 0 (.slice Ao38 t830.length co38)) 1 (.slice Ao43 t833.length co43)) 2 (.slice Ao44 t836.length co44)))) hb); have n3_ := Aside0.mk (Kd.R_below (rf_ (fm_ (fr_ (fr_ (fr_ (ft_ HO811 BK840) 0 (.slice Ao38 t830.length co38)) 1 (.slice Ao43 t833.length co43)) 2 (.slice Ao44 t836.length co44)))) hb); have n4_ := Aside0.mk (Kd.R_below (rf_ (fm_ (fr_ (fr_ (fr_ (ft_ HO814 BK840) 0 (.slice Ao38 t830.length co38)) 1 (.slice Ao43 t833.length co43)) 2 (.slice Ao44 t836.length co44)))) hb); have n5_ := Aside0.mk (Kd.R_below (rf_ (fm_ (fr_ (fr_ (fr_ (ft_ HO817 BK840) 0 (.slice Ao38 t830.length co38)) 1 (.slice Ao43 t833.length co43)) 2 (.slice Ao44 t836.length co44)))) hb); have n6_ := Aside0.mk (Kd.R_below (rf_ (fm_ (fr_ (fr_ (fr_ (ft_ HO822 BK840) 0 (.slice Ao38 t830.length co38)) 1 (.slice Ao43 t833.length co43)) 2 (.slice Ao44 t836.length co44)))) hb); have n7_ := Aside0.mk (Kd.R_below (rf_ (fm_ (fr_ (fr_ (fr_ (ft_ HO825 BK840) 0 (.slice Ao38 t830.length co38)) 1 (.slice Ao43 t833.length co43)) 2 (.slice Ao44 t836.length co44)))) hb); have n8_ := Aside0.mk (Kd.R_below (rf_ (fm_ (fr_ (fr_ (fr_ (ft_ HO828 BK840) 0 (.slice Ao38 t830.length co38)) 1 (.slice Ao43 t833.length co43)) 2 (.slice Ao44 t836.length co44)))) hb); have n9_ := Aside0.mk (Kd.R_below (rf_ (fm_ (fr_ (fr_ (fr_ (ft_ HO832 BK840) 0 (.slice Ao38 t830.length co38)) 1 (.slice Ao43 t833.length co43)) 2 (.slice Ao44 t836.length co44)))) hb); have n10_ := Aside0.mk (Kd.R_below (rf_ (fm_ (fr_ (fr_ (fr_ (ft_ HO835 BK840) 0 (.slice Ao38 t830.length co38)) 1 (.slice Ao43 t833.length co43)) 2 (.slice Ao44 t836.length co44)))) hb); have n11_ := Aside0.mk (Kd.R_below (rf_ (fm_ (fr_ (fr_ (fr_ (ft_ HO838 BK840) 0 (.slice Ao38 t830.length co38)) 1 (.slice Ao43 t833.length co43)) 2 (.slice Ao44 t836.length co44)))) hb); have n12_ := Aside0.mk (blk_below (g := gb798) (o := .cells #[.slice A0_0 l0_0.length c0_0, .slice A0_1 l0_1.length c0_1, .slice A0_2 l0_2.length c0_2] 45 (0, 0)) (by (with_reducible repeat (first | apply lN_ | apply lD_ | apply lA_)); refine blk_far ?_ NB798_840.out _; (with_reducible repeat (first | apply lN_ | apply lD_ | apply lA_)); refine blk_far ?_ NB798_840.out _; (with_reducible repeat (first | apply lN_ | apply lD_ | apply lA_)); refine blk_far ?_ NB798_840.out _; (with_reducible repeat (first | apply lN_ | apply lD_ | apply lA_)); exact BK798.out) hb); have n13_ := Aside0.mk (blk_below (g := gb819) (o := .cells #[.slice Ao22 t809.length co22, .slice Ao25 t812.length co25, .slice Ao26 t815.length co26] 35 (0, 0)) (by (with_reducible repeat (first | apply lN_ | apply lD_ | apply lA_)); refine blk_far ?_ NB819_840.out _; (with_reducible repeat (first | apply lN_ | apply lD_ | apply lA_)); refine blk_far ?_ NB819_840.out _; (with_reducible repeat (first | apply lN_ | apply lD_ | apply lA_)); refine blk_far ?_ NB819_840.out _; (with_reducible repeat (first | apply lN_ | apply lD_ | apply lA_)); exact BK819.out) hb); have n14_ := Aside0.mk (blk_below (g := gb829) (o := .cells #[.slice Ao30 t820.length co30, .slice Ao34 t823.length co34, .slice Ao35 t826.length co35] 35 (0, 0)) (by (with_reducible repeat (first | apply lN_ | apply lD_ | apply lA_)); refine blk_far ?_ NB829_840.out _; (with_reducible repeat (first | apply lN_ | apply lD_ | apply lA_)); refine blk_far ?_ NB829_840.out _; (with_reducible repeat (first | apply lN_ | apply lD_ | apply lA_)); refine blk_far ?_ NB829_840.out _; (with_reducible repeat (first | apply lN_ | apply lD_ | apply lA_)); exact BK829.out) hb); have n15_ := Aside0.mk (blk_below (g := gb840) (o := .cells #[.slice Ao38 t830.length co38, .slice Ao43 t833.length co43, .slice Ao44 t836.length co44] 35 (0, 0)) (by (with_reducible repeat (first | apply lN_ | apply lD_ | apply lA_)); refine blk_put (cs := #[.slice Ao38 t830.length co38, .slice Ao43 t833.length co43, .slice none 0 0]) ?_ 2 _ rfl; (with_reducible repeat (first | apply lN_ | apply lD_ | apply lA_)); refine blk_put (cs := #[.slice Ao38 t830.length co38, .slice none 0 0, .slice none 0 0]) ?_ 1 _ rfl; (with_reducible repeat (first | apply lN_ | apply lD_ | apply lA_)); refine blk_put (cs := #[.slice none 0 0, .slice none 0 0, .slice none 0 0]) ?_ 0 _ rfl; (with_reducible repeat (first | apply lN_ | apply lD_ | apply lA_)); exact BK840.out) hb); have n16_ := Aside0.mk (below_step (bb4_ HB GE798 GE819 GE829 GE840) hb); clear HO802; clear HO805; clear HO808; clear HO811; clear HO814; clear HO817; clear HO822; clear HO825; clear HO828; clear HO832; clear HO835; clear HO838; clear BK798; clear BK819; clear BK829; clear BK840; clear HB; have HO802 := n0_; have HO805 := n1_; have HO808 := n2_; have HO811 := n3_; have HO814 := n4_; have HO817 := n5_; have HO822 := n6_; have HO825 := n7_; have HO828 := n8_; have HO832 := n9_; have HO835 := n10_; have HO838 := n11_; have BK798 := n12_; have BK819 := n13_; have BK829 := n14_; have BK840 := n15_; have HB := n16_; clear n0_ n1_ n2_ n3_ n4_ n5_ n6_ n7_ n8_ n9_ n10_ n11_ n12_ n13_ n14_ n15_ n16_; (try clear hb); (try clear hb2); (try clear hk); (try clear hi)))
    go_meet
    case rel => exact ⟨_, (true), (by first | rfl | (simp; done) | (simp [*]; done)), H', ⟨by first | omega | exact Nat.le_refl _⟩, ⟨by (with_reducible repeat (first | apply rA_ | apply rN_ | apply rD_)); exact Kd.R_mono HO811.out (fun _ hk => ⟨hk.1.2, hk.2⟩)⟩, ⟨by (with_reducible repeat (first | apply rA_ | apply rN_ | apply rD_)); exact Kd.R_mono HO814.out (fun _ hk => ⟨hk.1.1.1.1.1.1, ⟨hk.1.1.1.2, ⟨hk.1.1.2, ⟨hk.1.2, hk.2⟩⟩⟩⟩)⟩, ⟨by (with_reducible repeat (first | apply rA_ | apply rN_ | apply rD_)); exact Kd.R_mono HO817.out (fun _ hk => ⟨hk.1.1.1.1.1.1, ⟨hk.1.1.1.2, ⟨hk.1.1.2, ⟨hk.1.2, hk.2⟩⟩⟩⟩)⟩, ⟨by (with_reducible repeat (first | apply rA_ | apply rN_ | apply rD_)); exact Kd.R_mono HO822.out (fun _ hk => ⟨hk.1.2, hk.2⟩)⟩, ⟨by (with_reducible repeat (first | apply rA_ | apply rN_ | apply rD_)); exact Kd.R_mono HO825.out (fun _ hk => ⟨hk.1.1.1.2, ⟨hk.1.1.2, ⟨hk.1.1.1.1.1.1, ⟨hk.1.2, hk.2⟩⟩⟩⟩)⟩, ⟨by (with_reducible repeat (first | apply rA_ | apply rN_ | apply rD_)); exact Kd.R_mono HO828.out (fun _ hk => ⟨hk.1.1.1.2, ⟨hk.1.1.2, ⟨hk.1.1.1.1.1.1, ⟨hk.1.2, hk.2⟩⟩⟩⟩)⟩, ⟨by (with_reducible repeat (first | apply rA_ | apply rN_ | apply rD_)); exact Kd.R_mono HO832.out (fun _ hk => ⟨hk.1.2, hk.2⟩)⟩, ⟨by (with_reducible repeat (first | apply rA_ | apply rN_ | apply rD_)); exact Kd.R_mono HO835.out (fun _ hk => ⟨hk.1.1.1.2, ⟨hk.1.1.2, ⟨hk.1.2, ⟨hk.2, hk.1.1.1.1.1.1⟩⟩⟩⟩)⟩, ⟨by (with_reducible repeat (first | apply rA_ | apply rN_ | apply rD_)); exact Kd.R_mono HO838.out (fun _ hk => ⟨hk.1.1.1.2, ⟨hk.1.1.2, ⟨hk.1.2, ⟨hk.2, hk.1.1.1.1.1.1⟩⟩⟩⟩)⟩, ⟨by (with_reducible repeat (first | apply lN_ | apply lD_ | apply lA_)); exact BK798.out⟩, ⟨by (with_reducible repeat (first | apply lN_ | apply lD_ | apply lA_)); exact BK819.out⟩, ⟨by (with_reducible repeat (first | apply lN_ | apply lD_ | apply lA_)); exact BK829.out⟩, ⟨by (with_reducible repeat (first | apply lN_ | apply lD_ | apply lA_)); exact BK840.out⟩, ⟨bb4_ HB GE798 GE819 GE829 GE840⟩⟩
  case rest =>
   clear HC11
   try clear c2
   try clear p2
   try clear c3
   try clear c3b0
   try clear c4
   try clear c5
   try clear c6
   try clear c9
   try clear c23
   try clear c28
   try clear c30
   try clear c31
   try clear c32
   try clear c39
   try clear c40
   try clear c41
   try clear c46
   try clear c47
   try clear c48
   try clear c49
   try clear c51
   try clear c52
   try clear c55
   try clear c56
   try clear c57
   try clear c59
   try clear c60
   try clear hcz13_0
   try clear hcz13_1
   try clear hcz13_2
   try clear hcz15_0
   try clear hcz15_1
   try clear hcz15_2
   try clear hcz24_0
   try clear hcz24_1
   try clear hcz24_2
   try clear hcz27_0
   try clear hcz27_1
   try clear hcz27_2
   try clear hcz33_0
   try clear hcz33_1
   try clear hcz33_2
   try clear hcz42_0
   try clear hcz42_1
   try clear hcz42_2
   try clear hcz50_0
   try clear hcz50_1
   try clear hcz50_2
   try clear hcz53_0
   try clear hcz53_1
   try clear hcz53_2
   try clear hcz58_0
   try clear hcz58_1
   try clear hcz58_2
   try clear hcz5_0
   try clear hcz5_1
   try clear hcz5_2
   try clear hcz61_0
   try clear hcz61_1
   try clear hcz61_2
   try clear hfz13_0
   try clear hfz13_1
   try clear hfz13_2
   try clear hfz15_0
   try clear hfz15_1
   try clear hfz15_2
   try clear hfz24_0
   try clear hfz24_1
   try clear hfz24_2
   try clear hfz27_0
   try clear hfz27_1
   try clear hfz27_2
   try clear hfz33_0
   try clear hfz33_1
   try clear hfz33_2
   try clear hfz42_0
   try clear hfz42_1
   try clear hfz42_2
   try clear hfz50_0
   try clear hfz50_1
   try clear hfz50_2
   try clear hfz53_0
   try clear hfz53_1
   try clear hfz53_2
   try clear hfz58_0
   try clear hfz58_1
   try clear hfz58_2
   try clear hfz5_0
   try clear hfz5_1
   try clear hfz5_2
   try clear hfz61_0
   try clear hfz61_1
   try clear hfz61_2
   obtain ⟨kq, x40_10, rfl, HA, HJ10, HO_820000, HO_820001, HO_820002, HO_830000, HO_830001, HO_830002, HO_841000, HO_841001, HO_841002, BK798, BK819, BK829, BK840, HB⟩ := hcut
   cases kq with
   | zero => exact absurd HA.out (by simp [laws_FnExactUndoEdit.j0])
   | succ kj10 =>
    have H := HA.out
    clear HA
    simp only [laws_FnExactUndoEdit.j0] at H
    by_cases c63 : x40_10 = true
    ·subst c63
     have H1 : (none) = some r := by rw [if_pos rfl] at H; exact H
     clear H
     have H := H1
     clear H1
     exact absurd H (by simp)
    ·replace c63 := Bool.eq_false_iff.mpr c63
     subst c63
     have H1 : ((laws_toDesk.f kj10 l0_0 l0_1 l0_2).bind fun bt842 => ((laws_eqDesk.f kj10 t820 t823 t826 bt842.1 bt842.2.1 bt842.2.2).bind fun t851 => (if t851 = true then ((laws_markDesk.f kj10 t820 t823 t826 1).bind fun bt852 => (if bt852.1 < 0 then (laws_FnExactUndoEdit.j1 kj10 t818 true l0_0 l0_1 l0_2 t809 t812 t815 t830 t833 t836) else ((laws_eqDesk.f kj10 t830 t833 t836 t809 t812 t815).bind fun t856 => (if t856 = true then (laws_FnExactUndoEdit.j1 kj10 t818 (t839 != t818) l0_0 l0_1 l0_2 t809 t812 t815 t830 t833 t836) else (laws_FnExactUndoEdit.j1 kj10 t818 true l0_0 l0_1 l0_2 t809 t812 t815 t830 t833 t836))))) else (none)))) = some r := by rw [if_neg (show ¬ (false = true) by decide)] at H; exact H
     clear H
     have H := H1
     clear H1
     replace H := Option.bind_eq_some_iff.mp H
     obtain ⟨⟨t842, t845, t848⟩, A640, H⟩ := H
     try dsimp only at H
     have A64 := Aside0.mk A640
     clear A640
     replace H := Option.bind_eq_some_iff.mp H
     obtain ⟨t851, A650, H⟩ := H
     try dsimp only at H
     have A65 := Aside0.mk A650
     clear A650
     by_cases c66 : t851 = true
     ·subst c66
      have H1 : ((laws_markDesk.f kj10 t820 t823 t826 1).bind fun bt852 => (if bt852.1 < 0 then (laws_FnExactUndoEdit.j1 kj10 t818 true l0_0 l0_1 l0_2 t809 t812 t815 t830 t833 t836) else ((laws_eqDesk.f kj10 t830 t833 t836 t809 t812 t815).bind fun t856 => (if t856 = true then (laws_FnExactUndoEdit.j1 kj10 t818 (t839 != t818) l0_0 l0_1 l0_2 t809 t812 t815 t830 t833 t836) else (laws_FnExactUndoEdit.j1 kj10 t818 true l0_0 l0_1 l0_2 t809 t812 t815 t830 t833 t836))))) = some r := by rw [if_pos rfl] at H; exact H
      clear H
      have H := H1
      clear H1
      replace H := Option.bind_eq_some_iff.mp H
      obtain ⟨⟨t852, t853, t854, t855⟩, A670, H⟩ := H
      try dsimp only at H
      have A67 := Aside0.mk A670
      clear A670
      have HC68 := Aside0.mk H
      clear H
      try go_wp2
      have n0_ := Aside0.mk (Kd.R_drew HO_820000.out)
      have n1_ := Aside0.mk (Kd.R_drew HO_820001.out)
      have n2_ := Aside0.mk (Kd.R_drew HO_820002.out)
      have n3_ := Aside0.mk (Kd.R_drew HO_830000.out)
      have n4_ := Aside0.mk (Kd.R_drew HO_830001.out)
      have n5_ := Aside0.mk (Kd.R_drew HO_830002.out)
      have n6_ := Aside0.mk (Kd.R_drew HO_841000.out)
      have n7_ := Aside0.mk (Kd.R_drew HO_841001.out)
      have n8_ := Aside0.mk (Kd.R_drew HO_841002.out)
      have n9_ := Aside0.mk (blk_drew BK798.out)
      have n10_ := Aside0.mk (blk_drew BK819.out)
      have n11_ := Aside0.mk (blk_drew BK829.out)
      have n12_ := Aside0.mk (blk_drew BK840.out)
      have n13_ := Aside0.mk (below_drew1 HB.out)
      clear HO_820000
      clear HO_820001
      clear HO_820002
      clear HO_830000
      clear HO_830001
      clear HO_830002
      clear HO_841000
      clear HO_841001
      clear HO_841002
      clear BK798
      clear BK819
      clear BK829
      clear BK840
      clear HB
      have HO_820000 := n0_
      have HO_820001 := n1_
      have HO_820002 := n2_
      have HO_830000 := n3_
      have HO_830001 := n4_
      have HO_830002 := n5_
      have HO_841000 := n6_
      have HO_841001 := n7_
      have HO_841002 := n8_
      have BK798 := n9_
      have BK819 := n10_
      have BK829 := n11_
      have BK840 := n12_
      have HB := n13_
      clear n0_ n1_ n2_ n3_ n4_ n5_ n6_ n7_ n8_ n9_ n10_ n11_ n12_ n13_
      refine start_ (n := 5) (S := fun w' => w'.cell? ⟨gb829, 0, none⟩ = some (.slice Ao30 t820.length co30) ∧ w'.cell? ⟨gb829, 1, none⟩ = some (.slice Ao34 t823.length co34) ∧ w'.cell? ⟨gb829, 2, none⟩ = some (.slice Ao35 t826.length co35) ∧ w'.cell? ⟨gb798, 0, none⟩ = some (.slice A0_0 l0_0.length c0_0) ∧ w'.cell? ⟨gb798, 1, none⟩ = some (.slice A0_1 l0_1.length c0_1) ∧ w'.cell? ⟨gb798, 2, none⟩ = some (.slice A0_2 l0_2.length c0_2)) (ds := []) #[false, false, false, false, false] (by kernel_rfl) rfl rfl ⟨(blk_cell BK829.out 0).trans rfl, (blk_cell BK829.out 1).trans rfl, (blk_cell BK829.out 2).trans rfl, (blk_cell BK798.out 0).trans rfl, (blk_cell BK798.out 1).trans rfl, (blk_cell BK798.out 2).trans rfl⟩ (fun hHeld => ?_)
      generalize wc.drew = w69 at HO_820000 HO_820001 HO_820002 HO_830000 HO_830001 HO_830002 HO_841000 HO_841001 HO_841002 BK798 BK819 BK829 BK840 HB hHeld ⊢
      refine take_ (i := 0) (N := some 41) (v := ?_) (a' := ?_) #[true, false, false, false, false] rfl rfl (by kernel_rfl) (fun _ _ _ h => h) (Or.inl ⟨by rfl, ?_⟩) hHeld ?_ ?_
      rotate_left
      ·rintro w' ⟨s0, s1, s2, s3, s4, s5⟩
       go_simp
       with_reducible rfl
      rotate_left
      ·simp only [Act.put, List.setIfInBounds_toArray, List.set_cons_zero, List.set_cons_succ, i64_w, i32_w]
       rfl
      refine take_ (i := 1) (N := some 42) (v := ?_) (a' := ?_) #[true, true, false, false, false] rfl rfl (by kernel_rfl) (fun _ _ _ h => h) (Or.inl ⟨by rfl, ?_⟩) hHeld ?_ ?_
      rotate_left
      ·rintro w' ⟨s0, s1, s2, s3, s4, s5⟩
       go_simp
       with_reducible rfl
      rotate_left
      ·simp only [Act.put, List.setIfInBounds_toArray, List.set_cons_zero, List.set_cons_succ, i64_w, i32_w]
       rfl
      refine one_ (i := 2) (N := some 43) #[true, true, true, false, false] rfl rfl (by kernel_rfl) (by decide) (fun K hK => ?_)
      refine goes_ Try.func30 (by kernel_rfl) rfl #[.agg #[.slice A0_0 l0_0.length c0_0, .slice A0_1 l0_1.length c0_1, .slice A0_2 l0_2.length c0_2]] (by rfl) rfl rfl args_ ?_
      with_reducible refine (laws_toDesk.calls kj10 _ _ l0_0 _ _ l0_1 _ _ l0_2 t842 t845 t848 _ ?side1 ?side2 ?side3 ?side4 ?side5 ?side6 A64.out).mono ?_
      (case side1 => repeat (first | exact (Kd.C_below HR0_0.out HB.out) | (with_reducible first | apply cA_ | apply cN_ | apply cD_)))
      (case side2 => exact HC0_0.out)
      (case side3 => repeat (first | exact (Kd.C_below HR0_1.out HB.out) | (with_reducible first | apply cA_ | apply cN_ | apply cD_)))
      (case side4 => exact HC0_1.out)
      (case side5 => repeat (first | exact (Kd.C_below HR0_2.out HB.out) | (with_reducible first | apply cA_ | apply cN_ | apply cD_)))
      (case side6 => exact HC0_2.out)
      rintro e w70 ⟨v843, v846, v849, rfl, ho0, ho1, ho2, hb⟩
      refine ⟨_, rfl, ?_⟩
      have n0_ := Aside0.mk (Kd.R_elder' (ra_ HO_820000) (Kd.R_base ho0) hb)
      have n1_ := Aside0.mk (Kd.R_mono (Kd.R_told (Kd.R_told (Kd.R_old (ra_ HO_820001) hb) (Kd.R_base ho1)) (Kd.R_base ho2)) (fun _ h_ => h_.1))
      have n2_ := Aside0.mk (Kd.R_mono (Kd.R_told (Kd.R_told (Kd.R_old (ra_ HO_820002) hb) (Kd.R_base ho1)) (Kd.R_base ho2)) (fun _ h_ => h_.1))
      have n3_ := Aside0.mk (Kd.R_elder' (ra_ HO_830000) (Kd.R_base ho0) hb)
      have n4_ := Aside0.mk (Kd.R_mono (Kd.R_told (Kd.R_told (Kd.R_old (ra_ HO_830001) hb) (Kd.R_base ho1)) (Kd.R_base ho2)) (fun _ h_ => h_.1))
      have n5_ := Aside0.mk (Kd.R_mono (Kd.R_told (Kd.R_told (Kd.R_old (ra_ HO_830002) hb) (Kd.R_base ho1)) (Kd.R_base ho2)) (fun _ h_ => h_.1))
      have n6_ := Aside0.mk (Kd.R_elder' (ra_ HO_841000) (Kd.R_base ho0) hb)
      have n7_ := Aside0.mk (Kd.R_mono (Kd.R_told (Kd.R_told (Kd.R_old (ra_ HO_841001) hb) (Kd.R_base ho1)) (Kd.R_base ho2)) (fun _ h_ => h_.1))
      have n8_ := Aside0.mk (Kd.R_mono (Kd.R_told (Kd.R_told (Kd.R_old (ra_ HO_841002) hb) (Kd.R_base ho1)) (Kd.R_base ho2)) (fun _ h_ => h_.1))
      have n9_ := Aside0.mk (Kd.R_lower (Kd.R_new' (Kd.R_new' (Kd.R_new' ho0 (Kd.R_lt (ra_ HO_820000))) (Kd.R_lt (ra_ HO_830000))) (Kd.R_lt (ra_ HO_841000))) (below_size (bb4_ HB GE798 GE819 GE829 GE840)))
      have n10_ := Aside0.mk (Kd.R_lower (Kd.R_new' (Kd.R_new' (Kd.R_new' (Kd.R_new' (Kd.R_new' (Kd.R_new' ho1 (Kd.R_lt (ra_ HO_820001))) (Kd.R_lt (ra_ HO_820002))) (Kd.R_lt (ra_ HO_830001))) (Kd.R_lt (ra_ HO_830002))) (Kd.R_lt (ra_ HO_841001))) (Kd.R_lt (ra_ HO_841002))) (below_size (bb4_ HB GE798 GE819 GE829 GE840)))
      have n11_ := Aside0.mk (Kd.R_lower (Kd.R_new' (Kd.R_new' (Kd.R_new' (Kd.R_new' (Kd.R_new' (Kd.R_new' ho2 (Kd.R_lt (ra_ HO_820001))) (Kd.R_lt (ra_ HO_820002))) (Kd.R_lt (ra_ HO_830001))) (Kd.R_lt (ra_ HO_830002))) (Kd.R_lt (ra_ HO_841001))) (Kd.R_lt (ra_ HO_841002))) (below_size (bb4_ HB GE798 GE819 GE829 GE840)))
      have n12_ := Aside0.mk (lb_ BK798 hb)
      have n13_ := Aside0.mk (lb_ BK819 hb)
      have n14_ := Aside0.mk (lb_ BK829 hb)
      have n15_ := Aside0.mk (lb_ BK840 hb)
      have n16_ := Aside0.mk (below_step (bb4_ HB GE798 GE819 GE829 GE840) hb)
      clear HO_820000
      clear HO_820001
      clear HO_820002
      clear HO_830000
      clear HO_830001
      clear HO_830002
      clear HO_841000
      clear HO_841001
      clear HO_841002
      clear BK798
      clear BK819
      clear BK829
      clear BK840
      clear HB
      have HO_820000 := n0_
      have HO_820001 := n1_
      have HO_820002 := n2_
      have HO_830000 := n3_
      have HO_830001 := n4_
      have HO_830002 := n5_
      have HO_841000 := n6_
      have HO_841001 := n7_
      have HO_841002 := n8_
      have HO844 := n9_
      have HO847 := n10_
      have HO850 := n11_
      have BK798 := n12_
      have BK819 := n13_
      have BK829 := n14_
      have BK840 := n15_
      have HB := n16_
      clear n0_ n1_ n2_ n3_ n4_ n5_ n6_ n7_ n8_ n9_ n10_ n11_ n12_ n13_ n14_ n15_ n16_
      (try clear hb)
      (try clear hb2)
      (try clear hk)
      (try clear hi)
      (try clear ho0)
      (try clear ho1)
      (try clear ho2)
      obtain ⟨Ao71, co71, eo71⟩ := Kd.R_slice HO844.out
      (first | subst eo71 | (injection eo71 with f1_ f2_ f3_; have f4_ := f1_.symm; have f5_ := f3_.symm; clear f1_ f2_ f3_; subst f4_; subst f5_))
      obtain ⟨Ao72, co72, eo72⟩ := Kd.R_slice HO847.out
      (first | subst eo72 | (injection eo72 with f1_ f2_ f3_; have f4_ := f1_.symm; have f5_ := f3_.symm; clear f1_ f2_ f3_; subst f4_; subst f5_))
      obtain ⟨Ao73, co73, eo73⟩ := Kd.R_slice HO850.out
      (first | subst eo73 | (injection eo73 with f1_ f2_ f3_; have f4_ := f1_.symm; have f5_ := f3_.symm; clear f1_ f2_ f3_; subst f4_; subst f5_))
      refine hK.out _ _ ⟨(blk_cell BK829.out 0).trans rfl, (blk_cell BK829.out 1).trans rfl, (blk_cell BK829.out 2).trans rfl, (blk_cell BK798.out 0).trans rfl, (blk_cell BK798.out 1).trans rfl, (blk_cell BK798.out 2).trans rfl⟩ (fun hHeld => ?_)
      clear hK K
      refine norm_ (a' := ?_) ?_ ?_
      rotate_left
      ·show Act.put _ (some 43) _ = _
       simp only [Act.put, List.setIfInBounds_toArray, List.set_cons_zero, List.set_cons_succ, i64_w, i32_w]
       rfl
      refine one_ (i := 3) (N := some 44) #[true, true, true, true, false] rfl rfl (by kernel_rfl) (by decide) (fun K hK => ?_)
      refine goes_ Try.func23 (by kernel_rfl) rfl #[.agg #[.slice Ao30 t820.length co30, .slice Ao34 t823.length co34, .slice Ao35 t826.length co35], .agg #[.slice Ao71 t842.length co71, .slice Ao72 t845.length co72, .slice Ao73 t848.length co73]] (by rfl) rfl rfl args_ ?_
      with_reducible refine (laws_eqDesk.calls kj10 _ _ t820 _ _ t823 _ _ t826 _ _ t842 _ _ t845 _ _ t848 true _ ?side1 ?side2 ?side3 ?side4 ?side5 ?side6 ?side7 ?side8 ?side9 ?side10 ?side11 ?side12 A65.out).mono ?_
      (case side1 => repeat (first | exact (Kd.R_reads' HO_830000.out).2.2 | (with_reducible first | apply cA_ | apply cN_ | apply cD_)))
      (case side2 => exact (Kd.R_reads' HO_830000.out).2.1)
      (case side3 => repeat (first | exact (Kd.R_reads' HO_830001.out).2.2 | (with_reducible first | apply cA_ | apply cN_ | apply cD_)))
      (case side4 => exact (Kd.R_reads' HO_830001.out).2.1)
      (case side5 => repeat (first | exact (Kd.R_reads' HO_830002.out).2.2 | (with_reducible first | apply cA_ | apply cN_ | apply cD_)))
      (case side6 => exact (Kd.R_reads' HO_830002.out).2.1)
      (case side7 => repeat (first | exact (Kd.R_reads' HO844.out).2.2 | (with_reducible first | apply cA_ | apply cN_ | apply cD_)))
      (case side8 => exact (Kd.R_reads' HO844.out).2.1)
      (case side9 => repeat (first | exact (Kd.R_reads' HO847.out).2.2 | (with_reducible first | apply cA_ | apply cN_ | apply cD_)))
      (case side10 => exact (Kd.R_reads' HO847.out).2.1)
      (case side11 => repeat (first | exact (Kd.R_reads' HO850.out).2.2 | (with_reducible first | apply cA_ | apply cN_ | apply cD_)))
      (case side12 => exact (Kd.R_reads' HO850.out).2.1)
      rintro e w74 ⟨rfl, hb⟩
      refine ⟨_, rfl, ?_⟩
      have n0_ := Aside0.mk (Kd.R_below (ra_ HO_820000) hb)
      have n1_ := Aside0.mk (Kd.R_below (ra_ HO_820001) hb)
      have n2_ := Aside0.mk (Kd.R_below (ra_ HO_820002) hb)
      have n3_ := Aside0.mk (Kd.R_below (ra_ HO_830000) hb)
      have n4_ := Aside0.mk (Kd.R_below (ra_ HO_830001) hb)
      have n5_ := Aside0.mk (Kd.R_below (ra_ HO_830002) hb)
      have n6_ := Aside0.mk (Kd.R_below (ra_ HO_841000) hb)
      have n7_ := Aside0.mk (Kd.R_below (ra_ HO_841001) hb)
      have n8_ := Aside0.mk (Kd.R_below (ra_ HO_841002) hb)
      have n9_ := Aside0.mk (Kd.R_below (ra_ HO844) hb)
      have n10_ := Aside0.mk (Kd.R_below (ra_ HO847) hb)
      have n11_ := Aside0.mk (Kd.R_below (ra_ HO850) hb)
      have n12_ := Aside0.mk (lb_ BK798 hb)
      have n13_ := Aside0.mk (lb_ BK819 hb)
      have n14_ := Aside0.mk (lb_ BK829 hb)
      have n15_ := Aside0.mk (lb_ BK840 hb)
      have n16_ := Aside0.mk (below_step (bb4_ HB GE798 GE819 GE829 GE840) hb)
      clear HO_820000
      clear HO_820001
      clear HO_820002
      clear HO_830000
      clear HO_830001
      clear HO_830002
      clear HO_841000
      clear HO_841001
      clear HO_841002
      clear HO844
      clear HO847
      clear HO850
      clear BK798
      clear BK819
      clear BK829
      clear BK840
      clear HB
      have HO_820000 := n0_
      have HO_820001 := n1_
      have HO_820002 := n2_
      have HO_830000 := n3_
      have HO_830001 := n4_
      have HO_830002 := n5_
      have HO_841000 := n6_
      have HO_841001 := n7_
      have HO_841002 := n8_
      have HO844 := n9_
      have HO847 := n10_
      have HO850 := n11_
      have BK798 := n12_
      have BK819 := n13_
      have BK829 := n14_
      have BK840 := n15_
      have HB := n16_
      clear n0_ n1_ n2_ n3_ n4_ n5_ n6_ n7_ n8_ n9_ n10_ n11_ n12_ n13_ n14_ n15_ n16_
      (try clear hb)
      (try clear hb2)
      (try clear hk)
      (try clear hi)
      refine hK.out _ _ ⟨(blk_cell BK829.out 0).trans rfl, (blk_cell BK829.out 1).trans rfl, (blk_cell BK829.out 2).trans rfl, (blk_cell BK798.out 0).trans rfl, (blk_cell BK798.out 1).trans rfl, (blk_cell BK798.out 2).trans rfl⟩ (fun hHeld => ?_)
      clear hK K
      refine norm_ (a' := ?_) ?_ ?_
      rotate_left
      ·show Act.put _ (some 44) _ = _
       simp only [Act.put, List.setIfInBounds_toArray, List.set_cons_zero, List.set_cons_succ, i64_w, i32_w]
       rfl
      refine pure_ (i := 4) (N := some 45) (v := ?_) (a' := ?_) #[true, true, true, true, true] rfl rfl (by kernel_rfl) (fun _ _ _ h => h) (Or.inl ⟨by rfl, ?_⟩) ?_ ?_
      rotate_left
      ·intro w'
       go_simp
       with_reducible rfl
      rotate_left
      ·simp only [Act.put, List.setIfInBounds_toArray, List.set_cons_zero, List.set_cons_succ, i64_w, i32_w]
       rfl
      refine done_ (by kernel_rfl) ?_
      have hnb75 := NB829_798.out
      have hnc75 := NB798_829.out
      have hnb76 := NB829_819.out
      have hnc76 := NB819_829.out
      have hnb77 := NB829_840.out
      have hnc77 := NB840_829.out
      have hcz78_0 : w74.cell? ⟨gb829, 0, none⟩ = some (.slice Ao30 t820.length co30) := (blk_cell BK829.out 0).trans rfl
      have hcz78_1 : w74.cell? ⟨gb829, 1, none⟩ = some (.slice Ao34 t823.length co34) := (blk_cell BK829.out 1).trans rfl
      have hcz78_2 : w74.cell? ⟨gb829, 2, none⟩ = some (.slice Ao35 t826.length co35) := (blk_cell BK829.out 2).trans rfl
      have hfz78_0 := blk_frozen BK829.out 0
      have hfz78_1 := blk_frozen BK829.out 1
      have hfz78_2 := blk_frozen BK829.out 2
      go_upto_region 14 with (first | ((with_reducible refine gate_callee (f := 26) rfl ?_); refine goesL_ (some 48) rfl rfl Try.func26 (by kernel_rfl) rfl #[.agg #[.slice Ao30 t820.length co30, .slice Ao34 t823.length co34, .slice Ao35 t826.length co35], .int .i64 1] rfl args_ ?_; (with_reducible refine (laws_markDesk.calls kj10 (fun k_ => some k_ = (.slice Ao30 t820.length co30 : Value).ownBlock) (.slice Ao30 t820.length co30) t820 (fun k_ => some k_ = (.slice Ao34 t823.length co34 : Value).ownBlock) (.slice Ao34 t823.length co34) t823 (fun k_ => some k_ = (.slice Ao35 t826.length co35 : Value).ownBlock) (.slice Ao35 t826.length co35) t826 1 t852 t853 t854 t855 w _ ?side1 ?side2 ?side3 ?side4 ?side5 ?side6 A67.out).mono ?_); (case side1 => repeat (first | (with_reducible first | exact HB.out | apply bA_ | apply bN_ | apply bD_ | refine bS_ ?_ GE798.out | refine bS_ ?_ GE819.out | refine bS_ ?_ GE829.out | refine bS_ ?_ GE840.out) | exact HB.out)); (case side2 => exact Kd.R_tight rfl HO_830000.out); (case side3 => exact Kd.R_tight rfl HO_830001.out); (case side4 => exact fun k_ e_ => (HO_830001.out.1 k_ e_.symm).1.1.2.2.1); (case side5 => exact Kd.R_tight rfl HO_830002.out); (case side6 => exact fun k_ e_ => (HO_830002.out.1 k_ e_.symm).1.1.2.2.1); rintro e w79 ⟨rfl, hy0, hy1, hy2, hb, hkp⟩; refine ⟨_, rfl, ?_⟩; have n0_ := Aside0.mk (Kd.R_mono (ok' := fun k_ => some k_ ≠ (.slice Ao30 t820.length co30 : Value).ownBlock ∧ some k_ ≠ (.slice Ao38 t830.length co38 : Value).ownBlock ∧ some k_ ≠ (.slice Ao71 t842.length co71 : Value).ownBlock) (Kd.R_keptB ((Kd.R_apart' (Kd.R_apart' HO_820000.out (Kd.R_typed HO_830001.out) (by decide)) (Kd.R_typed HO_830002.out) (by decide))) hkp (fun k_ hk_ hs_ => Or.elim hs_ (fun e_ => (hk_.1.1.1.1) e_) (fun e_ => Or.elim e_ (fun e_ => (hk_.1.2) e_) (fun e_ => (hk_.2) e_)))) (fun k_ hk_ => ⟨hk_.1.1.1.1.1, hk_.1.1.1.1.2, hk_.1.1.1.2⟩)); have n1_ := Aside0.mk (Kd.R_mono (ok' := fun k_ => some k_ ≠ (.slice Ao26 t815.length co26 : Value).ownBlock ∧ some k_ ≠ (.slice Ao34 t823.length co34 : Value).ownBlock ∧ some k_ ≠ (.slice Ao35 t826.length co35 : Value).ownBlock ∧ some k_ ≠ (.slice Ao43 t833.length co43 : Value).ownBlock ∧ some k_ ≠ (.slice Ao44 t836.length co44 : Value).ownBlock ∧ some k_ ≠ (.slice Ao72 t845.length co72 : Value).ownBlock ∧ some k_ ≠ (.slice Ao73 t848.length co73 : Value).ownBlock) (Kd.R_keptB ((Kd.R_apart' HO_820001.out (Kd.R_typed HO_830000.out) (by decide))) hkp (fun k_ hk_ hs_ => Or.elim hs_ (fun e_ => (hk_.2) e_) (fun e_ => Or.elim e_ (fun e_ => (hk_.1.1.1.2.1) e_) (fun e_ => (hk_.1.1.1.2.2.1) e_)))) (fun k_ hk_ => ⟨hk_.1.1.1.1.1, hk_.1.1.1.1.2.1, hk_.1.1.1.1.2.2.1, hk_.1.1.1.1.2.2.2.1, hk_.1.1.1.1.2.2.2.2, hk_.1.1.1.2, hk_.1.1.2⟩)); have n2_ := Aside0.mk (Kd.R_mono (ok' := fun k_ => some k_ ≠ (.slice Ao25 t812.length co25 : Value).ownBlock ∧ some k_ ≠ (.slice Ao34 t823.length co34 : Value).ownBlock ∧ some k_ ≠ (.slice Ao35 t826.length co35 : Value).ownBlock ∧ some k_ ≠ (.slice Ao43 t833.length co43 : Value).ownBlock ∧ some k_ ≠ (.slice Ao44 t836.length co44 : Value).ownBlock ∧ some k_ ≠ (.slice Ao72 t845.length co72 : Value).ownBlock ∧ some k_ ≠ (.slice Ao73 t848.length co73 : Value).ownBlock) (Kd.R_keptB ((Kd.R_apart' HO_820002.out (Kd.R_typed HO_830000.out) (by decide))) hkp (fun k_ hk_ hs_ => Or.elim hs_ (fun e_ => (hk_.2) e_) (fun e_ => Or.elim e_ (fun e_ => (hk_.1.1.1.2.1) e_) (fun e_ => (hk_.1.1.1.2.2.1) e_)))) (fun k_ hk_ => ⟨hk_.1.1.1.1.1, hk_.1.1.1.1.2.1, hk_.1.1.1.1.2.2.1, hk_.1.1.1.1.2.2.2.1, hk_.1.1.1.1.2.2.2.2, hk_.1.1.1.2, hk_.1.1.2⟩)); have n3_ := Aside0.mk (Kd.R_reok rfl hy0 (fun k_ e_ => HO_830000.out.1 k_ e_)); have n4_ := Aside0.mk (Kd.R_reok rfl hy1 (fun k_ e_ => HO_830001.out.1 k_ e_)); have n5_ := Aside0.mk (Kd.R_reok rfl hy2 (fun k_ e_ => HO_830002.out.1 k_ e_)); have n6_ := Aside0.mk (Kd.R_mono (ok' := fun k_ => some k_ ≠ (.slice Ao22 t809.length co22 : Value).ownBlock ∧ some k_ ≠ (.slice Ao30 t820.length co30 : Value).ownBlock ∧ some k_ ≠ (.slice Ao71 t842.length co71 : Value).ownBlock) (Kd.R_keptB ((Kd.R_apart' (Kd.R_apart' HO_841000.out (Kd.R_typed HO_830001.out) (by decide)) (Kd.R_typed HO_830002.out) (by decide))) hkp (fun k_ hk_ hs_ => Or.elim hs_ (fun e_ => (hk_.1.1.1.2) e_) (fun e_ => Or.elim e_ (fun e_ => (hk_.1.2) e_) (fun e_ => (hk_.2) e_)))) (fun k_ hk_ => ⟨hk_.1.1.1.1.1, hk_.1.1.1.1.2, hk_.1.1.1.2⟩)); have n7_ := Aside0.mk (Kd.R_mono (ok' := fun k_ => some k_ ≠ (.slice Ao25 t812.length co25 : Value).ownBlock ∧ some k_ ≠ (.slice Ao26 t815.length co26 : Value).ownBlock ∧ some k_ ≠ (.slice Ao34 t823.length co34 : Value).ownBlock ∧ some k_ ≠ (.slice Ao35 t826.length co35 : Value).ownBlock ∧ some k_ ≠ (.slice Ao44 t836.length co44 : Value).ownBlock ∧ some k_ ≠ (.slice Ao72 t845.length co72 : Value).ownBlock ∧ some k_ ≠ (.slice Ao73 t848.length co73 : Value).ownBlock) (Kd.R_keptB ((Kd.R_apart' HO_841001.out (Kd.R_typed HO_830000.out) (by decide))) hkp (fun k_ hk_ hs_ => Or.elim hs_ (fun e_ => (hk_.2) e_) (fun e_ => Or.elim e_ (fun e_ => (hk_.1.1.1.2.2.1) e_) (fun e_ => (hk_.1.1.1.2.2.2.1) e_)))) (fun k_ hk_ => ⟨hk_.1.1.1.1.1, hk_.1.1.1.1.2.1, hk_.1.1.1.1.2.2.1, hk_.1.1.1.1.2.2.2.1, hk_.1.1.1.1.2.2.2.2, hk_.1.1.1.2, hk_.1.1.2⟩)); have n8_ := Aside0.mk (Kd.R_mono (ok' := fun k_ => some k_ ≠ (.slice Ao25 t812.length co25 : Value).ownBlock ∧ some k_ ≠ (.slice Ao26 t815.length co26 : Value).ownBlock ∧ some k_ ≠ (.slice Ao34 t823.length co34 : Value).ownBlock ∧ some k_ ≠ (.slice Ao35 t826.length co35 : Value).ownBlock ∧ some k_ ≠ (.slice Ao43 t833.length co43 : Value).ownBlock ∧ some k_ ≠ (.slice Ao72 t845.length co72 : Value).ownBlock ∧ some k_ ≠ (.slice Ao73 t848.length co73 : Value).ownBlock) (Kd.R_keptB ((Kd.R_apart' HO_841002.out (Kd.R_typed HO_830000.out) (by decide))) hkp (fun k_ hk_ hs_ => Or.elim hs_ (fun e_ => (hk_.2) e_) (fun e_ => Or.elim e_ (fun e_ => (hk_.1.1.1.2.2.1) e_) (fun e_ => (hk_.1.1.1.2.2.2.1) e_)))) (fun k_ hk_ => ⟨hk_.1.1.1.1.1, hk_.1.1.1.1.2.1, hk_.1.1.1.1.2.2.1, hk_.1.1.1.1.2.2.2.1, hk_.1.1.1.1.2.2.2.2, hk_.1.1.1.2, hk_.1.1.2⟩)); have n9_ := Aside0.mk (blk_kept (la_ BK798) hkp (fun hs_ => Or.elim hs_ (fun e_ => (fun e_ => (Kd.R_ne HO_830000.out BK798.out (by decide)) e_) e_) (fun e_ => Or.elim e_ (fun e_ => (fun e_ => (Kd.R_ne HO_830001.out BK798.out (by decide)) e_) e_) (fun e_ => (fun e_ => (Kd.R_ne HO_830002.out BK798.out (by decide)) e_) e_)))); have n10_ := Aside0.mk (blk_kept (la_ BK819) hkp (fun hs_ => Or.elim hs_ (fun e_ => (fun e_ => (Kd.R_ne HO_830000.out BK819.out (by decide)) e_) e_) (fun e_ => Or.elim e_ (fun e_ => (fun e_ => (Kd.R_ne HO_830001.out BK819.out (by decide)) e_) e_) (fun e_ => (fun e_ => (Kd.R_ne HO_830002.out BK819.out (by decide)) e_) e_)))); have n11_ := Aside0.mk (blk_kept (la_ BK829) hkp (fun hs_ => Or.elim hs_ (fun e_ => (fun e_ => (Kd.R_ne HO_830000.out BK829.out (by decide)) e_) e_) (fun e_ => Or.elim e_ (fun e_ => (fun e_ => (Kd.R_ne HO_830001.out BK829.out (by decide)) e_) e_) (fun e_ => (fun e_ => (Kd.R_ne HO_830002.out BK829.out (by decide)) e_) e_)))); have n12_ := Aside0.mk (blk_kept (la_ BK840) hkp (fun hs_ => Or.elim hs_ (fun e_ => (fun e_ => (Kd.R_ne HO_830000.out BK840.out (by decide)) e_) e_) (fun e_ => Or.elim e_ (fun e_ => (fun e_ => (Kd.R_ne HO_830001.out BK840.out (by decide)) e_) e_) (fun e_ => (fun e_ => (Kd.R_ne HO_830002.out BK840.out (by decide)) e_) e_)))); have n13_ := Aside0.mk (Kd.R_mono (ok' := fun k_ => some k_ ≠ (.slice Ao22 t809.length co22 : Value).ownBlock ∧ some k_ ≠ (.slice Ao30 t820.length co30 : Value).ownBlock ∧ some k_ ≠ (.slice Ao38 t830.length co38 : Value).ownBlock) (Kd.R_keptB ((Kd.R_apart' (Kd.R_apart' HO844.out (Kd.R_typed HO_830001.out) (by decide)) (Kd.R_typed HO_830002.out) (by decide))) hkp (fun k_ hk_ hs_ => Or.elim hs_ (fun e_ => (hk_.1.1.1.2) e_) (fun e_ => Or.elim e_ (fun e_ => (hk_.1.2) e_) (fun e_ => (hk_.2) e_)))) (fun k_ hk_ => ⟨hk_.1.1.1.1.1.2, hk_.1.1.1.1.2, hk_.1.1.1.2⟩)); have n14_ := Aside0.mk (Kd.R_mono (ok' := fun k_ => some k_ ≠ (.slice Ao25 t812.length co25 : Value).ownBlock ∧ some k_ ≠ (.slice Ao26 t815.length co26 : Value).ownBlock ∧ some k_ ≠ (.slice Ao34 t823.length co34 : Value).ownBlock ∧ some k_ ≠ (.slice Ao35 t826.length co35 : Value).ownBlock ∧ some k_ ≠ (.slice Ao43 t833.length co43 : Value).ownBlock ∧ some k_ ≠ (.slice Ao44 t836.length co44 : Value).ownBlock ∧ some k_ ≠ (.slice Ao73 t848.length co73 : Value).ownBlock) (Kd.R_keptB ((Kd.R_apart' HO847.out (Kd.R_typed HO_830000.out) (by decide))) hkp (fun k_ hk_ hs_ => Or.elim hs_ (fun e_ => (hk_.2) e_) (fun e_ => Or.elim e_ (fun e_ => (hk_.1.1.1.1.2) e_) (fun e_ => (hk_.1.1.1.2) e_)))) (fun k_ hk_ => ⟨hk_.1.1.1.1.1.1.1.2, hk_.1.1.1.1.1.1.2, hk_.1.1.1.1.1.2, hk_.1.1.1.1.2, hk_.1.1.1.2, hk_.1.1.2, hk_.1.1.1.1.1.1.1.1⟩)); have n15_ := Aside0.mk (Kd.R_mono (ok' := fun k_ => some k_ ≠ (.slice Ao25 t812.length co25 : Value).ownBlock ∧ some k_ ≠ (.slice Ao26 t815.length co26 : Value).ownBlock ∧ some k_ ≠ (.slice Ao34 t823.length co34 : Value).ownBlock ∧ some k_ ≠ (.slice Ao35 t826.length co35 : Value).ownBlock ∧ some k_ ≠ (.slice Ao43 t833.length co43 : Value).ownBlock ∧ some k_ ≠ (.slice Ao44 t836.length co44 : Value).ownBlock ∧ some k_ ≠ (.slice Ao72 t845.length co72 : Value).ownBlock) (Kd.R_keptB ((Kd.R_apart' HO850.out (Kd.R_typed HO_830000.out) (by decide))) hkp (fun k_ hk_ hs_ => Or.elim hs_ (fun e_ => (hk_.2) e_) (fun e_ => Or.elim e_ (fun e_ => (hk_.1.1.1.1.2) e_) (fun e_ => (hk_.1.1.1.2) e_)))) (fun k_ hk_ => ⟨hk_.1.1.1.1.1.1.1.2, hk_.1.1.1.1.1.1.2, hk_.1.1.1.1.1.2, hk_.1.1.1.1.2, hk_.1.1.1.2, hk_.1.1.2, hk_.1.1.1.1.1.1.1.1⟩)); have n16_ := Aside0.mk (hb); clear HO_820000; clear HO_820001; clear HO_820002; clear HO_830000; clear HO_830001; clear HO_830002; clear HO_841000; clear HO_841001; clear HO_841002; clear BK798; clear BK819; clear BK829; clear BK840; clear HO844; clear HO847; clear HO850; clear HB; have HO_820000 := n0_; have HO_820001 := n1_; have HO_820002 := n2_; have HO_830000 := n3_; have HO_830001 := n4_; have HO_830002 := n5_; have HO_841000 := n6_; have HO_841001 := n7_; have HO_841002 := n8_; have BK798 := n9_; have BK819 := n10_; have BK829 := n11_; have BK840 := n12_; have HO844 := n13_; have HO847 := n14_; have HO850 := n15_; have HB := n16_; clear n0_ n1_ n2_ n3_ n4_ n5_ n6_ n7_ n8_ n9_ n10_ n11_ n12_ n13_ n14_ n15_ n16_; (try clear hb); (try clear hkp); (try clear hy0); (try clear hy1); (try clear hy2)))
      (try simp only [Act.put, List.setIfInBounds_toArray, List.set_cons_zero, List.set_cons_succ])
      go_cut [61] (fun v61 wc => ∃ (kq : Nat) (x61_67 : Bool), v61 = .bool x61_67 ∧ Aside0 (laws_FnExactUndoEdit.j1 kq t818 x61_67 l0_0 l0_1 l0_2 t809 t812 t815 t830 t833 t836 = some r) ∧ Aside0 (kq ≤ kj10) ∧ Aside0 (Kd.R Kd.string 9 wc w.heap.size (fun k_ => some k_ ≠ ((.slice Ao30 t820.length co30) : Value).ownBlock ∧ some k_ ≠ ((.slice Ao38 t830.length co38) : Value).ownBlock) (.slice Ao22 t809.length co22) t809) ∧ Aside0 (Kd.R k25 25 wc w.heap.size (fun k_ => some k_ ≠ ((.slice Ao26 t815.length co26) : Value).ownBlock ∧ some k_ ≠ ((.slice Ao34 t823.length co34) : Value).ownBlock ∧ some k_ ≠ ((.slice Ao35 t826.length co35) : Value).ownBlock ∧ some k_ ≠ ((.slice Ao43 t833.length co43) : Value).ownBlock ∧ some k_ ≠ ((.slice Ao44 t836.length co44) : Value).ownBlock) (.slice Ao25 t812.length co25) t812) ∧ Aside0 (Kd.R k25 25 wc w.heap.size (fun k_ => some k_ ≠ ((.slice Ao25 t812.length co25) : Value).ownBlock ∧ some k_ ≠ ((.slice Ao34 t823.length co34) : Value).ownBlock ∧ some k_ ≠ ((.slice Ao35 t826.length co35) : Value).ownBlock ∧ some k_ ≠ ((.slice Ao43 t833.length co43) : Value).ownBlock ∧ some k_ ≠ ((.slice Ao44 t836.length co44) : Value).ownBlock) (.slice Ao26 t815.length co26) t815) ∧ Aside0 (Kd.R Kd.string 9 wc w.heap.size (fun k_ => some k_ ≠ ((.slice Ao22 t809.length co22) : Value).ownBlock ∧ some k_ ≠ ((.slice Ao38 t830.length co38) : Value).ownBlock) (.slice Ao30 t820.length co30) t853) ∧ Aside0 (Kd.R k25 25 wc w.heap.size (fun k_ => some k_ ≠ ((.slice Ao25 t812.length co25) : Value).ownBlock ∧ some k_ ≠ ((.slice Ao26 t815.length co26) : Value).ownBlock ∧ some k_ ≠ ((.slice Ao35 t826.length co35) : Value).ownBlock ∧ some k_ ≠ ((.slice Ao43 t833.length co43) : Value).ownBlock ∧ some k_ ≠ ((.slice Ao44 t836.length co44) : Value).ownBlock) (.slice Ao34 t823.length co34) t854) ∧ Aside0 (Kd.R k25 25 wc w.heap.size (fun k_ => some k_ ≠ ((.slice Ao25 t812.length co25) : Value).ownBlock ∧ some k_ ≠ ((.slice Ao26 t815.length co26) : Value).ownBlock ∧ some k_ ≠ ((.slice Ao34 t823.length co34) : Value).ownBlock ∧ some k_ ≠ ((.slice Ao43 t833.length co43) : Value).ownBlock ∧ some k_ ≠ ((.slice Ao44 t836.length co44) : Value).ownBlock) (.slice Ao35 t826.length co35) t855) ∧ Aside0 (Kd.R Kd.string 9 wc w.heap.size (fun k_ => some k_ ≠ ((.slice Ao22 t809.length co22) : Value).ownBlock ∧ some k_ ≠ ((.slice Ao30 t820.length co30) : Value).ownBlock) (.slice Ao38 t830.length co38) t830) ∧ Aside0 (Kd.R k25 25 wc w.heap.size (fun k_ => some k_ ≠ ((.slice Ao25 t812.length co25) : Value).ownBlock ∧ some k_ ≠ ((.slice Ao26 t815.length co26) : Value).ownBlock ∧ some k_ ≠ ((.slice Ao34 t823.length co34) : Value).ownBlock ∧ some k_ ≠ ((.slice Ao35 t826.length co35) : Value).ownBlock ∧ some k_ ≠ ((.slice Ao44 t836.length co44) : Value).ownBlock) (.slice Ao43 t833.length co43) t833) ∧ Aside0 (Kd.R k25 25 wc w.heap.size (fun k_ => some k_ ≠ ((.slice Ao25 t812.length co25) : Value).ownBlock ∧ some k_ ≠ ((.slice Ao26 t815.length co26) : Value).ownBlock ∧ some k_ ≠ ((.slice Ao34 t823.length co34) : Value).ownBlock ∧ some k_ ≠ ((.slice Ao35 t826.length co35) : Value).ownBlock ∧ some k_ ≠ ((.slice Ao43 t833.length co43) : Value).ownBlock) (.slice Ao44 t836.length co44) t836) ∧ Aside0 (wc.heap[gb798]? = some (.cells #[(.slice A0_0 l0_0.length c0_0), (.slice A0_1 l0_1.length c0_1), (.slice A0_2 l0_2.length c0_2)] 45 (0, 0))) ∧ Aside0 (wc.heap[gb819]? = some (.cells #[(.slice Ao22 t809.length co22), (.slice Ao25 t812.length co25), (.slice Ao26 t815.length co26)] 35 (0, 0))) ∧ Aside0 (wc.heap[gb829]? = some (.cells #[(.slice Ao30 t820.length co30), (.slice Ao34 t823.length co34), (.slice Ao35 t826.length co35)] 35 (0, 0))) ∧ Aside0 (wc.heap[gb840]? = some (.cells #[(.slice Ao38 t830.length co38), (.slice Ao43 t833.length co43), (.slice Ao44 t836.length co44)] 35 (0, 0))) ∧ Aside0 (Below w.heap.size w wc))
      case first =>
       have H := HC68.out
       clear HC68
       by_cases c80 : t852 < 0
       ·rw [if_pos c80] at H
        have c80b0 : decide (t852 < 0) = true := decide_eq_true c80
        clear c80
        (first | rw [c80b0] | (simp only [i64_w, i32_w]; rw [c80b0]) | skip)
        have H' := Aside0.mk H
        clear H
        go_wp2
        go_meet
        case rel => exact ⟨_, (true), (by first | rfl | (simp; done) | (simp [*]; done)), H', ⟨by have := HJ10.out; first | omega | exact Nat.le_refl _⟩, ⟨by (with_reducible repeat (first | apply rA_ | apply rN_ | apply rD_)); exact Kd.R_mono HO_820000.out (fun _ hk => ⟨hk.1, hk.2.1⟩)⟩, ⟨by (with_reducible repeat (first | apply rA_ | apply rN_ | apply rD_)); exact Kd.R_mono HO_820001.out (fun _ hk => ⟨hk.1, ⟨hk.2.1, ⟨hk.2.2.1, ⟨hk.2.2.2.1, hk.2.2.2.2.1⟩⟩⟩⟩)⟩, ⟨by (with_reducible repeat (first | apply rA_ | apply rN_ | apply rD_)); exact Kd.R_mono HO_820002.out (fun _ hk => ⟨hk.1, ⟨hk.2.1, ⟨hk.2.2.1, ⟨hk.2.2.2.1, hk.2.2.2.2.1⟩⟩⟩⟩)⟩, ⟨by (with_reducible repeat (first | apply rA_ | apply rN_ | apply rD_)); exact Kd.R_mono HO_830000.out (fun _ hk => ⟨hk.1.1, hk.1.2⟩)⟩, ⟨by (with_reducible repeat (first | apply rA_ | apply rN_ | apply rD_)); exact Kd.R_mono HO_830001.out (fun _ hk => ⟨hk.1.1.1, ⟨hk.1.1.2.1, ⟨hk.1.1.2.2.1, ⟨hk.1.1.2.2.2.1, hk.1.1.2.2.2.2⟩⟩⟩⟩)⟩, ⟨by (with_reducible repeat (first | apply rA_ | apply rN_ | apply rD_)); exact Kd.R_mono HO_830002.out (fun _ hk => ⟨hk.1.1.1, ⟨hk.1.1.2.1, ⟨hk.1.1.2.2.1, ⟨hk.1.1.2.2.2.1, hk.1.1.2.2.2.2⟩⟩⟩⟩)⟩, ⟨by (with_reducible repeat (first | apply rA_ | apply rN_ | apply rD_)); exact Kd.R_mono HO_841000.out (fun _ hk => ⟨hk.1, hk.2.1⟩)⟩, ⟨by (with_reducible repeat (first | apply rA_ | apply rN_ | apply rD_)); exact Kd.R_mono HO_841001.out (fun _ hk => ⟨hk.1, ⟨hk.2.1, ⟨hk.2.2.1, ⟨hk.2.2.2.1, hk.2.2.2.2.1⟩⟩⟩⟩)⟩, ⟨by (with_reducible repeat (first | apply rA_ | apply rN_ | apply rD_)); exact Kd.R_mono HO_841002.out (fun _ hk => ⟨hk.1, ⟨hk.2.1, ⟨hk.2.2.1, ⟨hk.2.2.2.1, hk.2.2.2.2.1⟩⟩⟩⟩)⟩, ⟨by (with_reducible repeat (first | apply lN_ | apply lD_ | apply lA_)); exact BK798.out⟩, ⟨by (with_reducible repeat (first | apply lN_ | apply lD_ | apply lA_)); exact BK819.out⟩, ⟨by (with_reducible repeat (first | apply lN_ | apply lD_ | apply lA_)); exact BK829.out⟩, ⟨by (with_reducible repeat (first | apply lN_ | apply lD_ | apply lA_)); exact BK840.out⟩, ⟨bb4_ HB GE798 GE819 GE829 GE840⟩⟩
       ·rw [if_neg c80] at H
        have c80b0 : decide (t852 < 0) = false := decide_eq_false c80
        clear c80
        (first | rw [c80b0] | (simp only [i64_w, i32_w]; rw [c80b0]) | skip)
        replace H := Option.bind_eq_some_iff.mp H
        obtain ⟨t856, A810, H⟩ := H
        try dsimp only at H
        have A81 := Aside0.mk A810
        clear A810
        by_cases c82 : t856 = true
        ·subst c82
         have H1 : (laws_FnExactUndoEdit.j1 kj10 t818 (t839 != t818) l0_0 l0_1 l0_2 t809 t812 t815 t830 t833 t836) = some r := by rw [if_pos rfl] at H; exact H
         clear H
         have H := H1
         clear H1
         have H' := Aside0.mk H
         clear H
         have hnb83 := NB840_798.out
         have hnc83 := NB798_840.out
         have hnb84 := NB840_819.out
         have hnc84 := NB819_840.out
         have hnb85 := NB840_829.out
         have hnc85 := NB829_840.out
         have hcz86_0 : w79.cell? ⟨gb840, 0, none⟩ = some (.slice Ao38 t830.length co38) := (blk_cell BK840.out 0).trans rfl
         have hcz86_1 : w79.cell? ⟨gb840, 1, none⟩ = some (.slice Ao43 t833.length co43) := (blk_cell BK840.out 1).trans rfl
         have hcz86_2 : w79.cell? ⟨gb840, 2, none⟩ = some (.slice Ao44 t836.length co44) := (blk_cell BK840.out 2).trans rfl
         have hfz86_0 := blk_frozen BK840.out 0
         have hfz86_1 := blk_frozen BK840.out 1
         have hfz86_2 := blk_frozen BK840.out 2
         have hnb87 := NB819_798.out
         have hnc87 := NB798_819.out
         have hnb88 := NB819_829.out
         have hnc88 := NB829_819.out
         have hcz89_0 : w79.cell? ⟨gb819, 0, none⟩ = some (.slice Ao22 t809.length co22) := (blk_cell BK819.out 0).trans rfl
         have hcz89_1 : w79.cell? ⟨gb819, 1, none⟩ = some (.slice Ao25 t812.length co25) := (blk_cell BK819.out 1).trans rfl
         have hcz89_2 : w79.cell? ⟨gb819, 2, none⟩ = some (.slice Ao26 t815.length co26) := (blk_cell BK819.out 2).trans rfl
         have hfz89_0 := blk_frozen BK819.out 0
         have hfz89_1 := blk_frozen BK819.out 1
         have hfz89_2 := blk_frozen BK819.out 2
         go_wp2_with (first | (go_at_call 23; (with_reducible refine (laws_eqDesk.calls kj10 _ _ t830 _ _ t833 _ _ t836 _ _ t809 _ _ t812 _ _ t815 true _ ?side1 ?side2 ?side3 ?side4 ?side5 ?side6 ?side7 ?side8 ?side9 ?side10 ?side11 ?side12 A81.out).mono ?_); (case side1 => repeat (first | exact (Kd.R_reads' HO_841000.out).2.2 | (with_reducible first | apply cA_ | apply cN_ | apply cD_))); (case side2 => exact (Kd.R_reads' HO_841000.out).2.1); (case side3 => repeat (first | exact (Kd.R_reads' HO_841001.out).2.2 | (with_reducible first | apply cA_ | apply cN_ | apply cD_))); (case side4 => exact (Kd.R_reads' HO_841001.out).2.1); (case side5 => repeat (first | exact (Kd.R_reads' HO_841002.out).2.2 | (with_reducible first | apply cA_ | apply cN_ | apply cD_))); (case side6 => exact (Kd.R_reads' HO_841002.out).2.1); (case side7 => repeat (first | exact (Kd.R_reads' HO_820000.out).2.2 | (with_reducible first | apply cA_ | apply cN_ | apply cD_))); (case side8 => exact (Kd.R_reads' HO_820000.out).2.1); (case side9 => repeat (first | exact (Kd.R_reads' HO_820001.out).2.2 | (with_reducible first | apply cA_ | apply cN_ | apply cD_))); (case side10 => exact (Kd.R_reads' HO_820001.out).2.1); (case side11 => repeat (first | exact (Kd.R_reads' HO_820002.out).2.2 | (with_reducible first | apply cA_ | apply cN_ | apply cD_))); (case side12 => exact (Kd.R_reads' HO_820002.out).2.1); rintro e w90 ⟨rfl, hb⟩; have n0_ := Aside0.mk (Kd.R_below (ra_ HO_820000) hb); have n1_ := Aside0.mk (Kd.R_below (ra_ HO_820001) hb); have n2_ := Aside0.mk (Kd.R_below (ra_ HO_820002) hb); have n3_ := Aside0.mk (Kd.R_below (ra_ HO_830000) hb); have n4_ := Aside0.mk (Kd.R_below (ra_ HO_830001) hb); have n5_ := Aside0.mk (Kd.R_below (ra_ HO_830002) hb); have n6_ := Aside0.mk (Kd.R_below (ra_ HO_841000) hb); have n7_ := Aside0.mk (Kd.R_below (ra_ HO_841001) hb); have n8_ := Aside0.mk (Kd.R_below (ra_ HO_841002) hb); have n9_ := Aside0.mk (Kd.R_below (ra_ HO844) hb); have n10_ := Aside0.mk (Kd.R_below (ra_ HO847) hb); have n11_ := Aside0.mk (Kd.R_below (ra_ HO850) hb); have n12_ := Aside0.mk (lb_ BK798 hb); have n13_ := Aside0.mk (lb_ BK819 hb); have n14_ := Aside0.mk (lb_ BK829 hb); have n15_ := Aside0.mk (lb_ BK840 hb); have n16_ := Aside0.mk (below_step (bb4_ HB GE798 GE819 GE829 GE840) hb); clear HO_820000; clear HO_820001; clear HO_820002; clear HO_830000; clear HO_830001; clear HO_830002; clear HO_841000; clear HO_841001; clear HO_841002; clear HO844; clear HO847; clear HO850; clear BK798; clear BK819; clear BK829; clear BK840; clear HB; have HO_820000 := n0_; have HO_820001 := n1_; have HO_820002 := n2_; have HO_830000 := n3_; have HO_830001 := n4_; have HO_830002 := n5_; have HO_841000 := n6_; have HO_841001 := n7_; have HO_841002 := n8_; have HO844 := n9_; have HO847 := n10_; have HO850 := n11_; have BK798 := n12_; have BK819 := n13_; have BK829 := n14_; have BK840 := n15_; have HB := n16_; clear n0_ n1_ n2_ n3_ n4_ n5_ n6_ n7_ n8_ n9_ n10_ n11_ n12_ n13_ n14_ n15_ n16_; (try clear hb); (try clear hb2); (try clear hk); (try clear hi)))
         go_meet
         case rel => exact ⟨_, ((t839 != t818)), (by first | rfl | (simp; done) | (simp [*]; done)), H', ⟨by have := HJ10.out; first | omega | exact Nat.le_refl _⟩, ⟨by (with_reducible repeat (first | apply rA_ | apply rN_ | apply rD_)); exact Kd.R_mono HO_820000.out (fun _ hk => ⟨hk.1, hk.2.1⟩)⟩, ⟨by (with_reducible repeat (first | apply rA_ | apply rN_ | apply rD_)); exact Kd.R_mono HO_820001.out (fun _ hk => ⟨hk.1, ⟨hk.2.1, ⟨hk.2.2.1, ⟨hk.2.2.2.1, hk.2.2.2.2.1⟩⟩⟩⟩)⟩, ⟨by (with_reducible repeat (first | apply rA_ | apply rN_ | apply rD_)); exact Kd.R_mono HO_820002.out (fun _ hk => ⟨hk.1, ⟨hk.2.1, ⟨hk.2.2.1, ⟨hk.2.2.2.1, hk.2.2.2.2.1⟩⟩⟩⟩)⟩, ⟨by (with_reducible repeat (first | apply rA_ | apply rN_ | apply rD_)); exact Kd.R_mono HO_830000.out (fun _ hk => ⟨hk.1.1, hk.1.2⟩)⟩, ⟨by (with_reducible repeat (first | apply rA_ | apply rN_ | apply rD_)); exact Kd.R_mono HO_830001.out (fun _ hk => ⟨hk.1.1.1, ⟨hk.1.1.2.1, ⟨hk.1.1.2.2.1, ⟨hk.1.1.2.2.2.1, hk.1.1.2.2.2.2⟩⟩⟩⟩)⟩, ⟨by (with_reducible repeat (first | apply rA_ | apply rN_ | apply rD_)); exact Kd.R_mono HO_830002.out (fun _ hk => ⟨hk.1.1.1, ⟨hk.1.1.2.1, ⟨hk.1.1.2.2.1, ⟨hk.1.1.2.2.2.1, hk.1.1.2.2.2.2⟩⟩⟩⟩)⟩, ⟨by (with_reducible repeat (first | apply rA_ | apply rN_ | apply rD_)); exact Kd.R_mono HO_841000.out (fun _ hk => ⟨hk.1, hk.2.1⟩)⟩, ⟨by (with_reducible repeat (first | apply rA_ | apply rN_ | apply rD_)); exact Kd.R_mono HO_841001.out (fun _ hk => ⟨hk.1, ⟨hk.2.1, ⟨hk.2.2.1, ⟨hk.2.2.2.1, hk.2.2.2.2.1⟩⟩⟩⟩)⟩, ⟨by (with_reducible repeat (first | apply rA_ | apply rN_ | apply rD_)); exact Kd.R_mono HO_841002.out (fun _ hk => ⟨hk.1, ⟨hk.2.1, ⟨hk.2.2.1, ⟨hk.2.2.2.1, hk.2.2.2.2.1⟩⟩⟩⟩)⟩, ⟨by (with_reducible repeat (first | apply lN_ | apply lD_ | apply lA_)); exact BK798.out⟩, ⟨by (with_reducible repeat (first | apply lN_ | apply lD_ | apply lA_)); exact BK819.out⟩, ⟨by (with_reducible repeat (first | apply lN_ | apply lD_ | apply lA_)); exact BK829.out⟩, ⟨by (with_reducible repeat (first | apply lN_ | apply lD_ | apply lA_)); exact BK840.out⟩, ⟨bb4_ HB GE798 GE819 GE829 GE840⟩⟩
        ·replace c82 := Bool.eq_false_iff.mpr c82
         subst c82
         have H1 : (laws_FnExactUndoEdit.j1 kj10 t818 true l0_0 l0_1 l0_2 t809 t812 t815 t830 t833 t836) = some r := by rw [if_neg (show ¬ (false = true) by decide)] at H; exact H
         clear H
         have H := H1
         clear H1
         have H' := Aside0.mk H
         clear H
         have hnb91 := NB840_798.out
         have hnc91 := NB798_840.out
         have hnb92 := NB840_819.out
         have hnc92 := NB819_840.out
         have hnb93 := NB840_829.out
         have hnc93 := NB829_840.out
         have hcz94_0 : w79.cell? ⟨gb840, 0, none⟩ = some (.slice Ao38 t830.length co38) := (blk_cell BK840.out 0).trans rfl
         have hcz94_1 : w79.cell? ⟨gb840, 1, none⟩ = some (.slice Ao43 t833.length co43) := (blk_cell BK840.out 1).trans rfl
         have hcz94_2 : w79.cell? ⟨gb840, 2, none⟩ = some (.slice Ao44 t836.length co44) := (blk_cell BK840.out 2).trans rfl
         have hfz94_0 := blk_frozen BK840.out 0
         have hfz94_1 := blk_frozen BK840.out 1
         have hfz94_2 := blk_frozen BK840.out 2
         have hnb95 := NB819_798.out
         have hnc95 := NB798_819.out
         have hnb96 := NB819_829.out
         have hnc96 := NB829_819.out
         have hcz97_0 : w79.cell? ⟨gb819, 0, none⟩ = some (.slice Ao22 t809.length co22) := (blk_cell BK819.out 0).trans rfl
         have hcz97_1 : w79.cell? ⟨gb819, 1, none⟩ = some (.slice Ao25 t812.length co25) := (blk_cell BK819.out 1).trans rfl
         have hcz97_2 : w79.cell? ⟨gb819, 2, none⟩ = some (.slice Ao26 t815.length co26) := (blk_cell BK819.out 2).trans rfl
         have hfz97_0 := blk_frozen BK819.out 0
         have hfz97_1 := blk_frozen BK819.out 1
         have hfz97_2 := blk_frozen BK819.out 2
         go_wp2_with (first | (go_at_call 23; (with_reducible refine (laws_eqDesk.calls kj10 _ _ t830 _ _ t833 _ _ t836 _ _ t809 _ _ t812 _ _ t815 false _ ?side1 ?side2 ?side3 ?side4 ?side5 ?side6 ?side7 ?side8 ?side9 ?side10 ?side11 ?side12 A81.out).mono ?_); (case side1 => repeat (first | exact (Kd.R_reads' HO_841000.out).2.2 | (with_reducible first | apply cA_ | apply cN_ | apply cD_))); (case side2 => exact (Kd.R_reads' HO_841000.out).2.1); (case side3 => repeat (first | exact (Kd.R_reads' HO_841001.out).2.2 | (with_reducible first | apply cA_ | apply cN_ | apply cD_))); (case side4 => exact (Kd.R_reads' HO_841001.out).2.1); (case side5 => repeat (first | exact (Kd.R_reads' HO_841002.out).2.2 | (with_reducible first | apply cA_ | apply cN_ | apply cD_))); (case side6 => exact (Kd.R_reads' HO_841002.out).2.1); (case side7 => repeat (first | exact (Kd.R_reads' HO_820000.out).2.2 | (with_reducible first | apply cA_ | apply cN_ | apply cD_))); (case side8 => exact (Kd.R_reads' HO_820000.out).2.1); (case side9 => repeat (first | exact (Kd.R_reads' HO_820001.out).2.2 | (with_reducible first | apply cA_ | apply cN_ | apply cD_))); (case side10 => exact (Kd.R_reads' HO_820001.out).2.1); (case side11 => repeat (first | exact (Kd.R_reads' HO_820002.out).2.2 | (with_reducible first | apply cA_ | apply cN_ | apply cD_))); (case side12 => exact (Kd.R_reads' HO_820002.out).2.1); rintro e w98 ⟨rfl, hb⟩; have n0_ := Aside0.mk (Kd.R_below (ra_ HO_820000) hb); have n1_ := Aside0.mk (Kd.R_below (ra_ HO_820001) hb); have n2_ := Aside0.mk (Kd.R_below (ra_ HO_820002) hb); have n3_ := Aside0.mk (Kd.R_below (ra_ HO_830000) hb); have n4_ := Aside0.mk (Kd.R_below (ra_ HO_830001) hb); have n5_ := Aside0.mk (Kd.R_below (ra_ HO_830002) hb); have n6_ := Aside0.mk (Kd.R_below (ra_ HO_841000) hb); have n7_ := Aside0.mk (Kd.R_below (ra_ HO_841001) hb); have n8_ := Aside0.mk (Kd.R_below (ra_ HO_841002) hb); have n9_ := Aside0.mk (Kd.R_below (ra_ HO844) hb); have n10_ := Aside0.mk (Kd.R_below (ra_ HO847) hb); have n11_ := Aside0.mk (Kd.R_below (ra_ HO850) hb); have n12_ := Aside0.mk (lb_ BK798 hb); have n13_ := Aside0.mk (lb_ BK819 hb); have n14_ := Aside0.mk (lb_ BK829 hb); have n15_ := Aside0.mk (lb_ BK840 hb); have n16_ := Aside0.mk (below_step (bb4_ HB GE798 GE819 GE829 GE840) hb); clear HO_820000; clear HO_820001; clear HO_820002; clear HO_830000; clear HO_830001; clear HO_830002; clear HO_841000; clear HO_841001; clear HO_841002; clear HO844; clear HO847; clear HO850; clear BK798; clear BK819; clear BK829; clear BK840; clear HB; have HO_820000 := n0_; have HO_820001 := n1_; have HO_820002 := n2_; have HO_830000 := n3_; have HO_830001 := n4_; have HO_830002 := n5_; have HO_841000 := n6_; have HO_841001 := n7_; have HO_841002 := n8_; have HO844 := n9_; have HO847 := n10_; have HO850 := n11_; have BK798 := n12_; have BK819 := n13_; have BK829 := n14_; have BK840 := n15_; have HB := n16_; clear n0_ n1_ n2_ n3_ n4_ n5_ n6_ n7_ n8_ n9_ n10_ n11_ n12_ n13_ n14_ n15_ n16_; (try clear hb); (try clear hb2); (try clear hk); (try clear hi)))
         go_meet
         case rel => exact ⟨_, (true), (by first | rfl | (simp; done) | (simp [*]; done)), H', ⟨by have := HJ10.out; first | omega | exact Nat.le_refl _⟩, ⟨by (with_reducible repeat (first | apply rA_ | apply rN_ | apply rD_)); exact Kd.R_mono HO_820000.out (fun _ hk => ⟨hk.1, hk.2.1⟩)⟩, ⟨by (with_reducible repeat (first | apply rA_ | apply rN_ | apply rD_)); exact Kd.R_mono HO_820001.out (fun _ hk => ⟨hk.1, ⟨hk.2.1, ⟨hk.2.2.1, ⟨hk.2.2.2.1, hk.2.2.2.2.1⟩⟩⟩⟩)⟩, ⟨by (with_reducible repeat (first | apply rA_ | apply rN_ | apply rD_)); exact Kd.R_mono HO_820002.out (fun _ hk => ⟨hk.1, ⟨hk.2.1, ⟨hk.2.2.1, ⟨hk.2.2.2.1, hk.2.2.2.2.1⟩⟩⟩⟩)⟩, ⟨by (with_reducible repeat (first | apply rA_ | apply rN_ | apply rD_)); exact Kd.R_mono HO_830000.out (fun _ hk => ⟨hk.1.1, hk.1.2⟩)⟩, ⟨by (with_reducible repeat (first | apply rA_ | apply rN_ | apply rD_)); exact Kd.R_mono HO_830001.out (fun _ hk => ⟨hk.1.1.1, ⟨hk.1.1.2.1, ⟨hk.1.1.2.2.1, ⟨hk.1.1.2.2.2.1, hk.1.1.2.2.2.2⟩⟩⟩⟩)⟩, ⟨by (with_reducible repeat (first | apply rA_ | apply rN_ | apply rD_)); exact Kd.R_mono HO_830002.out (fun _ hk => ⟨hk.1.1.1, ⟨hk.1.1.2.1, ⟨hk.1.1.2.2.1, ⟨hk.1.1.2.2.2.1, hk.1.1.2.2.2.2⟩⟩⟩⟩)⟩, ⟨by (with_reducible repeat (first | apply rA_ | apply rN_ | apply rD_)); exact Kd.R_mono HO_841000.out (fun _ hk => ⟨hk.1, hk.2.1⟩)⟩, ⟨by (with_reducible repeat (first | apply rA_ | apply rN_ | apply rD_)); exact Kd.R_mono HO_841001.out (fun _ hk => ⟨hk.1, ⟨hk.2.1, ⟨hk.2.2.1, ⟨hk.2.2.2.1, hk.2.2.2.2.1⟩⟩⟩⟩)⟩, ⟨by (with_reducible repeat (first | apply rA_ | apply rN_ | apply rD_)); exact Kd.R_mono HO_841002.out (fun _ hk => ⟨hk.1, ⟨hk.2.1, ⟨hk.2.2.1, ⟨hk.2.2.2.1, hk.2.2.2.2.1⟩⟩⟩⟩)⟩, ⟨by (with_reducible repeat (first | apply lN_ | apply lD_ | apply lA_)); exact BK798.out⟩, ⟨by (with_reducible repeat (first | apply lN_ | apply lD_ | apply lA_)); exact BK819.out⟩, ⟨by (with_reducible repeat (first | apply lN_ | apply lD_ | apply lA_)); exact BK829.out⟩, ⟨by (with_reducible repeat (first | apply lN_ | apply lD_ | apply lA_)); exact BK840.out⟩, ⟨bb4_ HB GE798 GE819 GE829 GE840⟩⟩
      case rest =>
       clear HC68
       try clear c2
       try clear p2
       try clear c3
       try clear c3b0
       try clear c4
       try clear c5
       try clear c6
       try clear c7
       try clear c8
       try clear c9
       try clear c23
       try clear c26
       try clear c28
       try clear c30
       try clear c31
       try clear c32
       try clear c39
       try clear c40
       try clear c41
       try clear c46
       try clear c47
       try clear c48
       try clear c49
       try clear c51
       try clear c52
       try clear c55
       try clear c56
       try clear c57
       try clear c59
       try clear c60
       try clear c63
       try clear c66
       try clear c75
       try clear c76
       try clear c77
       try clear c80
       try clear c80b0
       try clear c82
       try clear c83
       try clear c84
       try clear c85
       try clear c87
       try clear c88
       try clear c91
       try clear c92
       try clear c93
       try clear c95
       try clear c96
       try clear hcz13_0
       try clear hcz13_1
       try clear hcz13_2
       try clear hcz15_0
       try clear hcz15_1
       try clear hcz15_2
       try clear hcz24_0
       try clear hcz24_1
       try clear hcz24_2
       try clear hcz27_0
       try clear hcz27_1
       try clear hcz27_2
       try clear hcz33_0
       try clear hcz33_1
       try clear hcz33_2
       try clear hcz42_0
       try clear hcz42_1
       try clear hcz42_2
       try clear hcz50_0
       try clear hcz50_1
       try clear hcz50_2
       try clear hcz53_0
       try clear hcz53_1
       try clear hcz53_2
       try clear hcz58_0
       try clear hcz58_1
       try clear hcz58_2
       try clear hcz5_0
       try clear hcz5_1
       try clear hcz5_2
       try clear hcz61_0
       try clear hcz61_1
       try clear hcz61_2
       try clear hcz78_0
       try clear hcz78_1
       try clear hcz78_2
       try clear hcz86_0
       try clear hcz86_1
       try clear hcz86_2
       try clear hcz89_0
       try clear hcz89_1
       try clear hcz89_2
       try clear hcz94_0
       try clear hcz94_1
       try clear hcz94_2
       try clear hcz97_0
       try clear hcz97_1
       try clear hcz97_2
       try clear hfz13_0
       try clear hfz13_1
       try clear hfz13_2
       try clear hfz15_0
       try clear hfz15_1
       try clear hfz15_2
       try clear hfz24_0
       try clear hfz24_1
       try clear hfz24_2
       try clear hfz27_0
       try clear hfz27_1
       try clear hfz27_2
       try clear hfz33_0
       try clear hfz33_1
       try clear hfz33_2
       try clear hfz42_0
       try clear hfz42_1
       try clear hfz42_2
       try clear hfz50_0
       try clear hfz50_1
       try clear hfz50_2
       try clear hfz53_0
       try clear hfz53_1
       try clear hfz53_2
       try clear hfz58_0
       try clear hfz58_1
       try clear hfz58_2
       try clear hfz5_0
       try clear hfz5_1
       try clear hfz5_2
       try clear hfz61_0
       try clear hfz61_1
       try clear hfz61_2
       try clear hfz78_0
       try clear hfz78_1
       try clear hfz78_2
       try clear hfz86_0
       try clear hfz86_1
       try clear hfz86_2
       try clear hfz89_0
       try clear hfz89_1
       try clear hfz89_2
       try clear hfz94_0
       try clear hfz94_1
       try clear hfz94_2
       try clear hfz97_0
       try clear hfz97_1
       try clear hfz97_2
       try clear p2
       obtain ⟨kq, x61_67, rfl, HA, HJ67, HO_820000, HO_820001, HO_820002, HO_830000, HO_830001, HO_830002, HO_841000, HO_841001, HO_841002, BK798, BK819, BK829, BK840, HB⟩ := hcut
       have hl830000_67 := (Kd.R_reads' HO_830000.out).1
       rw [hl830000_67] at HO_830000
       (try simp only [hl830000_67])
       (try simp only [hl830000_67] at BK798)
       (try simp only [hl830000_67] at BK819)
       (try simp only [hl830000_67] at BK829)
       (try simp only [hl830000_67] at BK840)
       (try simp only [hl830000_67] at HO_820000)
       (try simp only [hl830000_67] at HO_820001)
       (try simp only [hl830000_67] at HO_820002)
       (try simp only [hl830000_67] at HO_830001)
       (try simp only [hl830000_67] at HO_830002)
       (try simp only [hl830000_67] at HO_841000)
       (try simp only [hl830000_67] at HO_841001)
       (try simp only [hl830000_67] at HO_841002)
       have hl830001_67 := (Kd.R_reads' HO_830001.out).1
       rw [hl830001_67] at HO_830001
       (try simp only [hl830001_67])
       (try simp only [hl830001_67] at BK798)
       (try simp only [hl830001_67] at BK819)
       (try simp only [hl830001_67] at BK829)
       (try simp only [hl830001_67] at BK840)
       (try simp only [hl830001_67] at HO_820000)
       (try simp only [hl830001_67] at HO_820001)
       (try simp only [hl830001_67] at HO_820002)
       (try simp only [hl830001_67] at HO_830000)
       (try simp only [hl830001_67] at HO_830002)
       (try simp only [hl830001_67] at HO_841000)
       (try simp only [hl830001_67] at HO_841001)
       (try simp only [hl830001_67] at HO_841002)
       have hl830002_67 := (Kd.R_reads' HO_830002.out).1
       rw [hl830002_67] at HO_830002
       (try simp only [hl830002_67])
       (try simp only [hl830002_67] at BK798)
       (try simp only [hl830002_67] at BK819)
       (try simp only [hl830002_67] at BK829)
       (try simp only [hl830002_67] at BK840)
       (try simp only [hl830002_67] at HO_820000)
       (try simp only [hl830002_67] at HO_820001)
       (try simp only [hl830002_67] at HO_820002)
       (try simp only [hl830002_67] at HO_830000)
       (try simp only [hl830002_67] at HO_830001)
       (try simp only [hl830002_67] at HO_841000)
       (try simp only [hl830002_67] at HO_841001)
       (try simp only [hl830002_67] at HO_841002)
       cases kq with
       | zero => exact absurd HA.out (by simp [laws_FnExactUndoEdit.j1])
       | succ kj67 =>
        have H := HA.out
        clear HA
        simp only [laws_FnExactUndoEdit.j1] at H
        by_cases c99 : x61_67 = true
        ·subst c99
         have H1 : (none) = some r := by rw [if_pos rfl] at H; exact H
         clear H
         have H := H1
         clear H1
         exact absurd H (by simp)
        ·replace c99 := Bool.eq_false_iff.mpr c99
         subst c99
         have H1 : ((laws_markDesk.f kj67 t830 t833 t836 1).bind fun bt857 => ((laws_heldDesk.f kj67 bt857.2.1 bt857.2.2.1 bt857.2.2.2 1).bind fun t861 => (if t861 < 0 then (none) else (if t861 = bt857.1 then ((laws_toDesk.f kj67 l0_0 l0_1 l0_2).bind fun bt862 => ((impl_UndoEdit.f kj67 bt862.1 bt862.2.1 bt862.2.2).bind fun bt871 => ((laws_eqDesk.f kj67 bt871.1 bt871.2.1 bt871.2.2.1 t809 t812 t815).bind fun t882 => (if t882 = true then (laws_FnExactUndoEdit.j2 kj67 bt857.1 (bt871.2.2.2 != t818) bt857.2.1 bt857.2.2.1 bt857.2.2.2) else (laws_FnExactUndoEdit.j2 kj67 bt857.1 true bt857.2.1 bt857.2.2.1 bt857.2.2.2))))) else (none))))) = some r := by rw [if_neg (show ¬ (false = true) by decide)] at H; exact H
         clear H
         have H := H1
         clear H1
         replace H := Option.bind_eq_some_iff.mp H
         obtain ⟨⟨t857, t858, t859, t860⟩, A1000, H⟩ := H
         try dsimp only at H
         have A100 := Aside0.mk A1000
         clear A1000
         replace H := Option.bind_eq_some_iff.mp H
         obtain ⟨t861, A1010, H⟩ := H
         try dsimp only at H
         have A101 := Aside0.mk A1010
         clear A1010
         by_cases c102 : t861 < 0
         ·rw [if_pos c102] at H
          exact absurd H (by simp)
         ·rw [if_neg c102] at H
          have c102b0 : decide (t861 < 0) = false := decide_eq_false c102
          clear c102
          by_cases c103 : t861 = t857
          ·rw [if_pos c103] at H
           have c103b0 : (t861 == t857) = true := beq_iff_eq.mpr c103
           have c103b1 : (t861 != t857) = false := bne_eq_false_iff_eq.mpr c103
           clear c103
           replace H := Option.bind_eq_some_iff.mp H
           obtain ⟨⟨t862, t865, t868⟩, A1040, H⟩ := H
           try dsimp only at H
           have A104 := Aside0.mk A1040
           clear A1040
           replace H := Option.bind_eq_some_iff.mp H
           obtain ⟨⟨t871, t874, t877, t880⟩, A1050, H⟩ := H
           try dsimp only at H
           have A105 := Aside0.mk A1050
           clear A1050
           have HC106 := Aside0.mk H
           clear H
           have hnb107 := NB840_798.out
           have hnc107 := NB798_840.out
           have hnb108 := NB840_819.out
           have hnc108 := NB819_840.out
           have hnb109 := NB840_829.out
           have hnc109 := NB829_840.out
           have hcz110_0 : wc.cell? ⟨gb840, 0, none⟩ = some (.slice Ao38 t830.length co38) := (blk_cell BK840.out 0).trans rfl
           have hcz110_1 : wc.cell? ⟨gb840, 1, none⟩ = some (.slice Ao43 t833.length co43) := (blk_cell BK840.out 1).trans rfl
           have hcz110_2 : wc.cell? ⟨gb840, 2, none⟩ = some (.slice Ao44 t836.length co44) := (blk_cell BK840.out 2).trans rfl
           have hfz110_0 := blk_frozen BK840.out 0
           have hfz110_1 := blk_frozen BK840.out 1
           have hfz110_2 := blk_frozen BK840.out 2
           go_upto_region 25 with (first | ((with_reducible refine gate_callee (f := 26) rfl ?_); refine goesL_ (some 64) rfl rfl Try.func26 (by kernel_rfl) rfl #[.agg #[.slice Ao38 t830.length co38, .slice Ao43 t833.length co43, .slice Ao44 t836.length co44], .int .i64 1] rfl args_ ?_; (with_reducible refine (laws_markDesk.calls kj67 (fun k_ => some k_ = (.slice Ao38 t830.length co38 : Value).ownBlock) (.slice Ao38 t830.length co38) t830 (fun k_ => some k_ = (.slice Ao43 t833.length co43 : Value).ownBlock) (.slice Ao43 t833.length co43) t833 (fun k_ => some k_ = (.slice Ao44 t836.length co44 : Value).ownBlock) (.slice Ao44 t836.length co44) t836 1 t857 t858 t859 t860 w _ ?side1 ?side2 ?side3 ?side4 ?side5 ?side6 A100.out).mono ?_); (case side1 => repeat (first | (with_reducible first | exact HB.out | apply bA_ | apply bN_ | apply bD_ | refine bS_ ?_ GE798.out | refine bS_ ?_ GE819.out | refine bS_ ?_ GE829.out | refine bS_ ?_ GE840.out) | exact HB.out)); (case side2 => exact Kd.R_tight rfl HO_841000.out); (case side3 => exact Kd.R_tight rfl HO_841001.out); (case side4 => exact fun k_ e_ => (HO_841001.out.1 k_ e_.symm).2.2.2.2); (case side5 => exact Kd.R_tight rfl HO_841002.out); (case side6 => exact fun k_ e_ => (HO_841002.out.1 k_ e_.symm).2.2.2.2); rintro e w111 ⟨rfl, hy0, hy1, hy2, hb, hkp⟩; refine ⟨_, rfl, ?_⟩; have n0_ := Aside0.mk (Kd.R_mono (ok' := fun k_ => some k_ ≠ (.slice Ao30 t853.length co30 : Value).ownBlock ∧ some k_ ≠ (.slice Ao38 t830.length co38 : Value).ownBlock) (Kd.R_keptB ((Kd.R_apart' (Kd.R_apart' HO_820000.out (Kd.R_typed HO_841001.out) (by decide)) (Kd.R_typed HO_841002.out) (by decide))) hkp (fun k_ hk_ hs_ => Or.elim hs_ (fun e_ => (hk_.1.1.2) e_) (fun e_ => Or.elim e_ (fun e_ => (hk_.1.2) e_) (fun e_ => (hk_.2) e_)))) (fun k_ hk_ => ⟨hk_.1.1.1.1, hk_.1.1.1.2⟩)); have n1_ := Aside0.mk (Kd.R_mono (ok' := fun k_ => some k_ ≠ (.slice Ao26 t815.length co26 : Value).ownBlock ∧ some k_ ≠ (.slice Ao34 t854.length co34 : Value).ownBlock ∧ some k_ ≠ (.slice Ao35 t855.length co35 : Value).ownBlock ∧ some k_ ≠ (.slice Ao43 t833.length co43 : Value).ownBlock ∧ some k_ ≠ (.slice Ao44 t836.length co44 : Value).ownBlock) (Kd.R_keptB ((Kd.R_apart' HO_820001.out (Kd.R_typed HO_841000.out) (by decide))) hkp (fun k_ hk_ hs_ => Or.elim hs_ (fun e_ => (hk_.2) e_) (fun e_ => Or.elim e_ (fun e_ => (hk_.1.2.2.2.1) e_) (fun e_ => (hk_.1.2.2.2.2) e_)))) (fun k_ hk_ => ⟨hk_.1.1.1, hk_.1.1.2.1, hk_.1.1.2.2.1, hk_.1.1.2.2.2.1, hk_.1.1.2.2.2.2⟩)); have n2_ := Aside0.mk (Kd.R_mono (ok' := fun k_ => some k_ ≠ (.slice Ao25 t812.length co25 : Value).ownBlock ∧ some k_ ≠ (.slice Ao34 t854.length co34 : Value).ownBlock ∧ some k_ ≠ (.slice Ao35 t855.length co35 : Value).ownBlock ∧ some k_ ≠ (.slice Ao43 t833.length co43 : Value).ownBlock ∧ some k_ ≠ (.slice Ao44 t836.length co44 : Value).ownBlock) (Kd.R_keptB ((Kd.R_apart' HO_820002.out (Kd.R_typed HO_841000.out) (by decide))) hkp (fun k_ hk_ hs_ => Or.elim hs_ (fun e_ => (hk_.2) e_) (fun e_ => Or.elim e_ (fun e_ => (hk_.1.2.2.2.1) e_) (fun e_ => (hk_.1.2.2.2.2) e_)))) (fun k_ hk_ => ⟨hk_.1.1.1, hk_.1.1.2.1, hk_.1.1.2.2.1, hk_.1.1.2.2.2.1, hk_.1.1.2.2.2.2⟩)); have n3_ := Aside0.mk (Kd.R_mono (ok' := fun k_ => some k_ ≠ (.slice Ao22 t809.length co22 : Value).ownBlock ∧ some k_ ≠ (.slice Ao38 t830.length co38 : Value).ownBlock) (Kd.R_keptB ((Kd.R_apart' (Kd.R_apart' HO_830000.out (Kd.R_typed HO_841001.out) (by decide)) (Kd.R_typed HO_841002.out) (by decide))) hkp (fun k_ hk_ hs_ => Or.elim hs_ (fun e_ => (hk_.1.1.2) e_) (fun e_ => Or.elim e_ (fun e_ => (hk_.1.2) e_) (fun e_ => (hk_.2) e_)))) (fun k_ hk_ => ⟨hk_.1.1.1.1, hk_.1.1.1.2⟩)); have n4_ := Aside0.mk (Kd.R_mono (ok' := fun k_ => some k_ ≠ (.slice Ao25 t812.length co25 : Value).ownBlock ∧ some k_ ≠ (.slice Ao26 t815.length co26 : Value).ownBlock ∧ some k_ ≠ (.slice Ao35 t855.length co35 : Value).ownBlock ∧ some k_ ≠ (.slice Ao43 t833.length co43 : Value).ownBlock ∧ some k_ ≠ (.slice Ao44 t836.length co44 : Value).ownBlock) (Kd.R_keptB ((Kd.R_apart' HO_830001.out (Kd.R_typed HO_841000.out) (by decide))) hkp (fun k_ hk_ hs_ => Or.elim hs_ (fun e_ => (hk_.2) e_) (fun e_ => Or.elim e_ (fun e_ => (hk_.1.2.2.2.1) e_) (fun e_ => (hk_.1.2.2.2.2) e_)))) (fun k_ hk_ => ⟨hk_.1.1.1, hk_.1.1.2.1, hk_.1.1.2.2.1, hk_.1.1.2.2.2.1, hk_.1.1.2.2.2.2⟩)); have n5_ := Aside0.mk (Kd.R_mono (ok' := fun k_ => some k_ ≠ (.slice Ao25 t812.length co25 : Value).ownBlock ∧ some k_ ≠ (.slice Ao26 t815.length co26 : Value).ownBlock ∧ some k_ ≠ (.slice Ao34 t854.length co34 : Value).ownBlock ∧ some k_ ≠ (.slice Ao43 t833.length co43 : Value).ownBlock ∧ some k_ ≠ (.slice Ao44 t836.length co44 : Value).ownBlock) (Kd.R_keptB ((Kd.R_apart' HO_830002.out (Kd.R_typed HO_841000.out) (by decide))) hkp (fun k_ hk_ hs_ => Or.elim hs_ (fun e_ => (hk_.2) e_) (fun e_ => Or.elim e_ (fun e_ => (hk_.1.2.2.2.1) e_) (fun e_ => (hk_.1.2.2.2.2) e_)))) (fun k_ hk_ => ⟨hk_.1.1.1, hk_.1.1.2.1, hk_.1.1.2.2.1, hk_.1.1.2.2.2.1, hk_.1.1.2.2.2.2⟩)); have n6_ := Aside0.mk (Kd.R_reok rfl hy0 (fun k_ e_ => HO_841000.out.1 k_ e_)); have n7_ := Aside0.mk (Kd.R_reok rfl hy1 (fun k_ e_ => HO_841001.out.1 k_ e_)); have n8_ := Aside0.mk (Kd.R_reok rfl hy2 (fun k_ e_ => HO_841002.out.1 k_ e_)); have n9_ := Aside0.mk (blk_kept (la_ BK798) hkp (fun hs_ => Or.elim hs_ (fun e_ => (fun e_ => (Kd.R_ne HO_841000.out BK798.out (by decide)) e_) e_) (fun e_ => Or.elim e_ (fun e_ => (fun e_ => (Kd.R_ne HO_841001.out BK798.out (by decide)) e_) e_) (fun e_ => (fun e_ => (Kd.R_ne HO_841002.out BK798.out (by decide)) e_) e_)))); have n10_ := Aside0.mk (blk_kept (la_ BK819) hkp (fun hs_ => Or.elim hs_ (fun e_ => (fun e_ => (Kd.R_ne HO_841000.out BK819.out (by decide)) e_) e_) (fun e_ => Or.elim e_ (fun e_ => (fun e_ => (Kd.R_ne HO_841001.out BK819.out (by decide)) e_) e_) (fun e_ => (fun e_ => (Kd.R_ne HO_841002.out BK819.out (by decide)) e_) e_)))); have n11_ := Aside0.mk (blk_kept (la_ BK829) hkp (fun hs_ => Or.elim hs_ (fun e_ => (fun e_ => (Kd.R_ne HO_841000.out BK829.out (by decide)) e_) e_) (fun e_ => Or.elim e_ (fun e_ => (fun e_ => (Kd.R_ne HO_841001.out BK829.out (by decide)) e_) e_) (fun e_ => (fun e_ => (Kd.R_ne HO_841002.out BK829.out (by decide)) e_) e_)))); have n12_ := Aside0.mk (blk_kept (la_ BK840) hkp (fun hs_ => Or.elim hs_ (fun e_ => (fun e_ => (Kd.R_ne HO_841000.out BK840.out (by decide)) e_) e_) (fun e_ => Or.elim e_ (fun e_ => (fun e_ => (Kd.R_ne HO_841001.out BK840.out (by decide)) e_) e_) (fun e_ => (fun e_ => (Kd.R_ne HO_841002.out BK840.out (by decide)) e_) e_)))); have n13_ := Aside0.mk (hb); clear HO_820000; clear HO_820001; clear HO_820002; clear HO_830000; clear HO_830001; clear HO_830002; clear HO_841000; clear HO_841001; clear HO_841002; clear BK798; clear BK819; clear BK829; clear BK840; clear HB; have HO_820000 := n0_; have HO_820001 := n1_; have HO_820002 := n2_; have HO_830000 := n3_; have HO_830001 := n4_; have HO_830002 := n5_; have HO_841000 := n6_; have HO_841001 := n7_; have HO_841002 := n8_; have BK798 := n9_; have BK819 := n10_; have BK829 := n11_; have BK840 := n12_; have HB := n13_; clear n0_ n1_ n2_ n3_ n4_ n5_ n6_ n7_ n8_ n9_ n10_ n11_ n12_ n13_; (try clear hb); (try clear hkp); (try clear hy0); (try clear hy1); (try clear hy2); have hcz112_0 : w111.cell? ⟨gb840, 0, none⟩ = some (.slice Ao38 t830.length co38) := (blk_cell BK840.out 0).trans rfl; have hcz112_1 : w111.cell? ⟨gb840, 1, none⟩ = some (.slice Ao43 t833.length co43) := (blk_cell BK840.out 1).trans rfl; have hcz112_2 : w111.cell? ⟨gb840, 2, none⟩ = some (.slice Ao44 t836.length co44) := (blk_cell BK840.out 2).trans rfl; have hfz112_0 := blk_frozen BK840.out 0; have hfz112_1 := blk_frozen BK840.out 1; have hfz112_2 := blk_frozen BK840.out 2) | ((with_reducible refine gate_callee (f := 27) rfl ?_); refine goesL_ (some 67) rfl rfl Try.func27 (by kernel_rfl) rfl #[.agg #[.slice Ao38 t858.length co38, .slice Ao43 t859.length co43, .slice Ao44 t860.length co44], .int .i64 1] rfl (by (try simp only [List.map_toArray, List.map_cons, List.map_nil]); first | done | (rw [show t858.length = t830.length from (Kd.R_reads' HO_841000.out).1.symm, show t859.length = t833.length from (Kd.R_reads' HO_841001.out).1.symm, show t860.length = t836.length from (Kd.R_reads' HO_841002.out).1.symm] <;> rfl) | rfl | (simp only [List.length_drop, List.length_take]; rfl)) ?_; (with_reducible refine (laws_heldDesk.calls kj67 _ _ t858 _ _ t859 _ _ t860 1 t861 _ ?side1 ?side2 ?side3 ?side4 ?side5 ?side6 A101.out).mono ?_); (case side1 => repeat (first | exact (Kd.R_reads' HO_841000.out).2.2 | (with_reducible first | apply cA_ | apply cN_ | apply cD_))); (case side2 => rw [show t858.length = t830.length from (Kd.R_reads' HO_841000.out).1.symm]; exact (Kd.R_reads' HO_841000.out).2.1); (case side3 => repeat (first | exact (Kd.R_reads' HO_841001.out).2.2 | (with_reducible first | apply cA_ | apply cN_ | apply cD_))); (case side4 => rw [show t859.length = t833.length from (Kd.R_reads' HO_841001.out).1.symm]; exact (Kd.R_reads' HO_841001.out).2.1); (case side5 => repeat (first | exact (Kd.R_reads' HO_841002.out).2.2 | (with_reducible first | apply cA_ | apply cN_ | apply cD_))); (case side6 => rw [show t860.length = t836.length from (Kd.R_reads' HO_841002.out).1.symm]; exact (Kd.R_reads' HO_841002.out).2.1); rintro e w113 ⟨rfl, hb⟩; refine ⟨_, rfl, ?_⟩; have n0_ := Aside0.mk (Kd.R_below (ra_ HO_820000) hb); have n1_ := Aside0.mk (Kd.R_below (ra_ HO_820001) hb); have n2_ := Aside0.mk (Kd.R_below (ra_ HO_820002) hb); have n3_ := Aside0.mk (Kd.R_below (ra_ HO_830000) hb); have n4_ := Aside0.mk (Kd.R_below (ra_ HO_830001) hb); have n5_ := Aside0.mk (Kd.R_below (ra_ HO_830002) hb); have n6_ := Aside0.mk (Kd.R_below (ra_ HO_841000) hb); have n7_ := Aside0.mk (Kd.R_below (ra_ HO_841001) hb); have n8_ := Aside0.mk (Kd.R_below (ra_ HO_841002) hb); have n9_ := Aside0.mk (lb_ BK798 hb); have n10_ := Aside0.mk (lb_ BK819 hb); have n11_ := Aside0.mk (lb_ BK829 hb); have n12_ := Aside0.mk (lb_ BK840 hb); have n13_ := Aside0.mk (below_step (bb4_ HB GE798 GE819 GE829 GE840) hb); clear HO_820000; clear HO_820001; clear HO_820002; clear HO_830000; clear HO_830001; clear HO_830002; clear HO_841000; clear HO_841001; clear HO_841002; clear BK798; clear BK819; clear BK829; clear BK840; clear HB; have HO_820000 := n0_; have HO_820001 := n1_; have HO_820002 := n2_; have HO_830000 := n3_; have HO_830001 := n4_; have HO_830002 := n5_; have HO_841000 := n6_; have HO_841001 := n7_; have HO_841002 := n8_; have BK798 := n9_; have BK819 := n10_; have BK829 := n11_; have BK840 := n12_; have HB := n13_; clear n0_ n1_ n2_ n3_ n4_ n5_ n6_ n7_ n8_ n9_ n10_ n11_ n12_ n13_; (try clear hb); (try clear hb2); (try clear hk); (try clear hi); have hnb114 := NB798_819.out; have hnc114 := NB819_798.out; have hnb115 := NB798_829.out; have hnc115 := NB829_798.out; have hcz116_0 : w113.cell? ⟨gb798, 0, none⟩ = some (.slice A0_0 l0_0.length c0_0) := (blk_cell BK798.out 0).trans rfl; have hcz116_1 : w113.cell? ⟨gb798, 1, none⟩ = some (.slice A0_1 l0_1.length c0_1) := (blk_cell BK798.out 1).trans rfl; have hcz116_2 : w113.cell? ⟨gb798, 2, none⟩ = some (.slice A0_2 l0_2.length c0_2) := (blk_cell BK798.out 2).trans rfl; have hfz116_0 := blk_frozen BK798.out 0; have hfz116_1 := blk_frozen BK798.out 1; have hfz116_2 := blk_frozen BK798.out 2) | ((with_reducible refine gate_callee (f := 30) rfl ?_); refine goesL_ (some 75) rfl rfl Try.func30 (by kernel_rfl) rfl #[.agg #[.slice A0_0 l0_0.length c0_0, .slice A0_1 l0_1.length c0_1, .slice A0_2 l0_2.length c0_2]] rfl args_ ?_; (with_reducible refine (laws_toDesk.calls kj67 _ _ l0_0 _ _ l0_1 _ _ l0_2 t862 t865 t868 _ ?side1 ?side2 ?side3 ?side4 ?side5 ?side6 A104.out).mono ?_); (case side1 => repeat (first | exact (Kd.C_below HR0_0.out HB.out) | (with_reducible first | apply cA_ | apply cN_ | apply cD_))); (case side2 => exact HC0_0.out); (case side3 => repeat (first | exact (Kd.C_below HR0_1.out HB.out) | (with_reducible first | apply cA_ | apply cN_ | apply cD_))); (case side4 => exact HC0_1.out); (case side5 => repeat (first | exact (Kd.C_below HR0_2.out HB.out) | (with_reducible first | apply cA_ | apply cN_ | apply cD_))); (case side6 => exact HC0_2.out); rintro e w117 ⟨v863, v866, v869, rfl, ho0, ho1, ho2, hb⟩; refine ⟨_, rfl, ?_⟩; have n0_ := Aside0.mk (Kd.R_elder' (ra_ HO_820000) (Kd.R_base ho0) hb); have n1_ := Aside0.mk (Kd.R_mono (Kd.R_told (Kd.R_told (Kd.R_old (ra_ HO_820001) hb) (Kd.R_base ho1)) (Kd.R_base ho2)) (fun _ h_ => h_.1)); have n2_ := Aside0.mk (Kd.R_mono (Kd.R_told (Kd.R_told (Kd.R_old (ra_ HO_820002) hb) (Kd.R_base ho1)) (Kd.R_base ho2)) (fun _ h_ => h_.1)); have n3_ := Aside0.mk (Kd.R_elder' (ra_ HO_830000) (Kd.R_base ho0) hb); have n4_ := Aside0.mk (Kd.R_mono (Kd.R_told (Kd.R_told (Kd.R_old (ra_ HO_830001) hb) (Kd.R_base ho1)) (Kd.R_base ho2)) (fun _ h_ => h_.1)); have n5_ := Aside0.mk (Kd.R_mono (Kd.R_told (Kd.R_told (Kd.R_old (ra_ HO_830002) hb) (Kd.R_base ho1)) (Kd.R_base ho2)) (fun _ h_ => h_.1)); have n6_ := Aside0.mk (Kd.R_elder' (ra_ HO_841000) (Kd.R_base ho0) hb); have n7_ := Aside0.mk (Kd.R_mono (Kd.R_told (Kd.R_told (Kd.R_old (ra_ HO_841001) hb) (Kd.R_base ho1)) (Kd.R_base ho2)) (fun _ h_ => h_.1)); have n8_ := Aside0.mk (Kd.R_mono (Kd.R_told (Kd.R_told (Kd.R_old (ra_ HO_841002) hb) (Kd.R_base ho1)) (Kd.R_base ho2)) (fun _ h_ => h_.1)); have n9_ := Aside0.mk (Kd.R_lower (Kd.R_new' (Kd.R_new' (Kd.R_new' ho0 (Kd.R_lt (ra_ HO_820000))) (Kd.R_lt (ra_ HO_830000))) (Kd.R_lt (ra_ HO_841000))) (below_size (bb4_ HB GE798 GE819 GE829 GE840))); have n10_ := Aside0.mk (Kd.R_lower (Kd.R_new' (Kd.R_new' (Kd.R_new' (Kd.R_new' (Kd.R_new' (Kd.R_new' ho1 (Kd.R_lt (ra_ HO_820001))) (Kd.R_lt (ra_ HO_820002))) (Kd.R_lt (ra_ HO_830001))) (Kd.R_lt (ra_ HO_830002))) (Kd.R_lt (ra_ HO_841001))) (Kd.R_lt (ra_ HO_841002))) (below_size (bb4_ HB GE798 GE819 GE829 GE840))); have n11_ := Aside0.mk (Kd.R_lower (Kd.R_new' (Kd.R_new' (Kd.R_new' (Kd.R_new' (Kd.R_new' (Kd.R_new' ho2 (Kd.R_lt (ra_ HO_820001))) (Kd.R_lt (ra_ HO_820002))) (Kd.R_lt (ra_ HO_830001))) (Kd.R_lt (ra_ HO_830002))) (Kd.R_lt (ra_ HO_841001))) (Kd.R_lt (ra_ HO_841002))) (below_size (bb4_ HB GE798 GE819 GE829 GE840))); have n12_ := Aside0.mk (lb_ BK798 hb); have n13_ := Aside0.mk (lb_ BK819 hb); have n14_ := Aside0.mk (lb_ BK829 hb); have n15_ := Aside0.mk (lb_ BK840 hb); have n16_ := Aside0.mk (below_step (bb4_ HB GE798 GE819 GE829 GE840) hb); clear HO_820000; clear HO_820001; clear HO_820002; clear HO_830000; clear HO_830001; clear HO_830002; clear HO_841000; clear HO_841001; clear HO_841002; clear BK798; clear BK819; clear BK829; clear BK840; clear HB; have HO_820000 := n0_; have HO_820001 := n1_; have HO_820002 := n2_; have HO_830000 := n3_; have HO_830001 := n4_; have HO_830002 := n5_; have HO_841000 := n6_; have HO_841001 := n7_; have HO_841002 := n8_; have HO864 := n9_; have HO867 := n10_; have HO870 := n11_; have BK798 := n12_; have BK819 := n13_; have BK829 := n14_; have BK840 := n15_; have HB := n16_; clear n0_ n1_ n2_ n3_ n4_ n5_ n6_ n7_ n8_ n9_ n10_ n11_ n12_ n13_ n14_ n15_ n16_; (try clear hb); (try clear hb2); (try clear hk); (try clear hi); (try clear ho0); (try clear ho1); (try clear ho2); obtain ⟨Ao118, co118, eo118⟩ := Kd.R_slice HO864.out; subst eo118; obtain ⟨Ao119, co119, eo119⟩ := Kd.R_slice HO867.out; subst eo119; obtain ⟨Ao120, co120, eo120⟩ := Kd.R_slice HO870.out; subst eo120) | ((with_reducible refine gate_callee (f := 40) rfl ?_); refine goesL_ (some 76) rfl rfl Try.func40 (by kernel_rfl) rfl #[.agg #[.slice Ao118 t862.length co118, .slice Ao119 t865.length co119, .slice Ao120 t868.length co120]] rfl args_ ?_; (with_reducible refine (impl_UndoEdit.calls kj67 _ _ t862 _ _ t865 _ _ t868 t871 t874 t877 t880 _ ?side1 ?side2 ?side3 ?side4 ?side5 ?side6 A105.out).mono ?_); (case side1 => repeat (first | exact (Kd.R_reads' HO864.out).2.2 | (with_reducible first | apply cA_ | apply cN_ | apply cD_))); (case side2 => exact (Kd.R_reads' HO864.out).2.1); (case side3 => repeat (first | exact (Kd.R_reads' HO867.out).2.2 | (with_reducible first | apply cA_ | apply cN_ | apply cD_))); (case side4 => exact (Kd.R_reads' HO867.out).2.1); (case side5 => repeat (first | exact (Kd.R_reads' HO870.out).2.2 | (with_reducible first | apply cA_ | apply cN_ | apply cD_))); (case side6 => exact (Kd.R_reads' HO870.out).2.1); rintro e w121 ⟨v872, v875, v878, rfl, ho0, ho1, ho2, hb⟩; refine ⟨_, rfl, ?_⟩; have n0_ := Aside0.mk (Kd.R_elder' (ra_ HO_820000) (Kd.R_base ho0) hb); have n1_ := Aside0.mk (Kd.R_mono (Kd.R_told (Kd.R_told (Kd.R_old (ra_ HO_820001) hb) (Kd.R_base ho1)) (Kd.R_base ho2)) (fun _ h_ => h_.1)); have n2_ := Aside0.mk (Kd.R_mono (Kd.R_told (Kd.R_told (Kd.R_old (ra_ HO_820002) hb) (Kd.R_base ho1)) (Kd.R_base ho2)) (fun _ h_ => h_.1)); have n3_ := Aside0.mk (Kd.R_elder' (ra_ HO_830000) (Kd.R_base ho0) hb); have n4_ := Aside0.mk (Kd.R_mono (Kd.R_told (Kd.R_told (Kd.R_old (ra_ HO_830001) hb) (Kd.R_base ho1)) (Kd.R_base ho2)) (fun _ h_ => h_.1)); have n5_ := Aside0.mk (Kd.R_mono (Kd.R_told (Kd.R_told (Kd.R_old (ra_ HO_830002) hb) (Kd.R_base ho1)) (Kd.R_base ho2)) (fun _ h_ => h_.1)); have n6_ := Aside0.mk (Kd.R_elder' (ra_ HO_841000) (Kd.R_base ho0) hb); have n7_ := Aside0.mk (Kd.R_mono (Kd.R_told (Kd.R_told (Kd.R_old (ra_ HO_841001) hb) (Kd.R_base ho1)) (Kd.R_base ho2)) (fun _ h_ => h_.1)); have n8_ := Aside0.mk (Kd.R_mono (Kd.R_told (Kd.R_told (Kd.R_old (ra_ HO_841002) hb) (Kd.R_base ho1)) (Kd.R_base ho2)) (fun _ h_ => h_.1)); have n9_ := Aside0.mk (Kd.R_elder' (ra_ HO864) (Kd.R_base ho0) hb); have n10_ := Aside0.mk (Kd.R_mono (Kd.R_told (Kd.R_told (Kd.R_old (ra_ HO867) hb) (Kd.R_base ho1)) (Kd.R_base ho2)) (fun _ h_ => h_.1)); have n11_ := Aside0.mk (Kd.R_mono (Kd.R_told (Kd.R_told (Kd.R_old (ra_ HO870) hb) (Kd.R_base ho1)) (Kd.R_base ho2)) (fun _ h_ => h_.1)); have n12_ := Aside0.mk (Kd.R_lower (Kd.R_new' (Kd.R_new' (Kd.R_new' (Kd.R_new' ho0 (Kd.R_lt (ra_ HO_820000))) (Kd.R_lt (ra_ HO_830000))) (Kd.R_lt (ra_ HO_841000))) (Kd.R_lt (ra_ HO864))) (below_size (bb4_ HB GE798 GE819 GE829 GE840))); have n13_ := Aside0.mk (Kd.R_lower (Kd.R_new' (Kd.R_new' (Kd.R_new' (Kd.R_new' (Kd.R_new' (Kd.R_new' (Kd.R_new' (Kd.R_new' ho1 (Kd.R_lt (ra_ HO_820001))) (Kd.R_lt (ra_ HO_820002))) (Kd.R_lt (ra_ HO_830001))) (Kd.R_lt (ra_ HO_830002))) (Kd.R_lt (ra_ HO_841001))) (Kd.R_lt (ra_ HO_841002))) (Kd.R_lt (ra_ HO867))) (Kd.R_lt (ra_ HO870))) (below_size (bb4_ HB GE798 GE819 GE829 GE840))); have n14_ := Aside0.mk (Kd.R_lower (Kd.R_new' (Kd.R_new' (Kd.R_new' (Kd.R_new' (Kd.R_new' (Kd.R_new' (Kd.R_new' (Kd.R_new' ho2 (Kd.R_lt (ra_ HO_820001))) (Kd.R_lt (ra_ HO_820002))) (Kd.R_lt (ra_ HO_830001))) (Kd.R_lt (ra_ HO_830002))) (Kd.R_lt (ra_ HO_841001))) (Kd.R_lt (ra_ HO_841002))) (Kd.R_lt (ra_ HO867))) (Kd.R_lt (ra_ HO870))) (below_size (bb4_ HB GE798 GE819 GE829 GE840))); have n15_ := Aside0.mk (lb_ BK798 hb); have n16_ := Aside0.mk (lb_ BK819 hb); have n17_ := Aside0.mk (lb_ BK829 hb); have n18_ := Aside0.mk (lb_ BK840 hb); have n19_ := Aside0.mk (below_step (bb4_ HB GE798 GE819 GE829 GE840) hb); clear HO_820000; clear HO_820001; clear HO_820002; clear HO_830000; clear HO_830001; clear HO_830002; clear HO_841000; clear HO_841001; clear HO_841002; clear HO864; clear HO867; clear HO870; clear BK798; clear BK819; clear BK829; clear BK840; clear HB; have HO_820000 := n0_; have HO_820001 := n1_; have HO_820002 := n2_; have HO_830000 := n3_; have HO_830001 := n4_; have HO_830002 := n5_; have HO_841000 := n6_; have HO_841001 := n7_; have HO_841002 := n8_; have HO864 := n9_; have HO867 := n10_; have HO870 := n11_; have HO873 := n12_; have HO876 := n13_; have HO879 := n14_; have BK798 := n15_; have BK819 := n16_; have BK829 := n17_; have BK840 := n18_; have HB := n19_; clear n0_ n1_ n2_ n3_ n4_ n5_ n6_ n7_ n8_ n9_ n10_ n11_ n12_ n13_ n14_ n15_ n16_ n17_ n18_ n19_; (try clear hb); (try clear hb2); (try clear hk); (try clear hi); (try clear ho0); (try clear ho1); (try clear ho2)) | ((with_reducible refine gate_dst (N := 12) rfl ?_); refine box_event ?hg (N := 12) ?hd (cs := #[.slice none 0 0, .slice none 0 0, .slice none 0 0]) (t := 35) ?hr ?_; (case hd => rfl); (case hg => rfl); (case hr => first | (go_simp; done) | (go_simp; rfl)); intro gb881 hg w122 hbox hb; have n0_ := Aside0.mk (Kd.R_below (ra_ HO_820000) hb); have n1_ := Aside0.mk (Kd.R_below (ra_ HO_820001) hb); have n2_ := Aside0.mk (Kd.R_below (ra_ HO_820002) hb); have n3_ := Aside0.mk (Kd.R_below (ra_ HO_830000) hb); have n4_ := Aside0.mk (Kd.R_below (ra_ HO_830001) hb); have n5_ := Aside0.mk (Kd.R_below (ra_ HO_830002) hb); have n6_ := Aside0.mk (Kd.R_below (ra_ HO_841000) hb); have n7_ := Aside0.mk (Kd.R_below (ra_ HO_841001) hb); have n8_ := Aside0.mk (Kd.R_below (ra_ HO_841002) hb); have n9_ := Aside0.mk (Kd.R_below (ra_ HO864) hb); have n10_ := Aside0.mk (Kd.R_below (ra_ HO867) hb); have n11_ := Aside0.mk (Kd.R_below (ra_ HO870) hb); have n12_ := Aside0.mk (Kd.R_below (ra_ HO873) hb); have n13_ := Aside0.mk (Kd.R_below (ra_ HO876) hb); have n14_ := Aside0.mk (Kd.R_below (ra_ HO879) hb); have n15_ := Aside0.mk (lb_ BK798 hb); have n16_ := Aside0.mk (lb_ BK819 hb); have n17_ := Aside0.mk (lb_ BK829 hb); have n18_ := Aside0.mk (lb_ BK840 hb); have n19_ := Aside0.mk (below_step (bb4_ HB GE798 GE819 GE829 GE840) hb); have n20_ := Aside0.mk (hbox); have n21_ := Aside0.mk ((by rw [hg]; exact (below_size (bb4_ HB GE798 GE819 GE829 GE840)) : w.heap.size ≤ gb881)); have n22_ := Aside0.mk ((by rw [hg]; exact (below_size (bb4_ HB GE798 GE819 GE829 GE840)) : w.heap.size ≤ gb881)); have n23_ := Aside0.mk ((by rw [hg]; exact Nat.ne_of_lt (blk_lt (g := gb798) (o := .cells #[.slice A0_0 l0_0.length c0_0, .slice A0_1 l0_1.length c0_1, .slice A0_2 l0_2.length c0_2] 45 (0, 0)) (la_ BK798)) : gb798 ≠ gb881)); have n24_ := Aside0.mk ((by rw [hg]; exact Nat.ne_of_gt (blk_lt (g := gb798) (o := .cells #[.slice A0_0 l0_0.length c0_0, .slice A0_1 l0_1.length c0_1, .slice A0_2 l0_2.length c0_2] 45 (0, 0)) (la_ BK798)) : gb881 ≠ gb798)); have n25_ := Aside0.mk ((by rw [hg]; exact Nat.ne_of_lt (blk_lt (g := gb819) (o := .cells #[.slice Ao22 t809.length co22, .slice Ao25 t812.length co25, .slice Ao26 t815.length co26] 35 (0, 0)) (la_ BK819)) : gb819 ≠ gb881)); have n26_ := Aside0.mk ((by rw [hg]; exact Nat.ne_of_gt (blk_lt (g := gb819) (o := .cells #[.slice Ao22 t809.length co22, .slice Ao25 t812.length co25, .slice Ao26 t815.length co26] 35 (0, 0)) (la_ BK819)) : gb881 ≠ gb819)); have n27_ := Aside0.mk ((by rw [hg]; exact Nat.ne_of_lt (blk_lt (g := gb829) (o := .cells #[.slice Ao30 t853.length co30, .slice Ao34 t854.length co34, .slice Ao35 t855.length co35] 35 (0, 0)) (la_ BK829)) : gb829 ≠ gb881)); have n28_ := Aside0.mk ((by rw [hg]; exact Nat.ne_of_gt (blk_lt (g := gb829) (o := .cells #[.slice Ao30 t853.length co30, .slice Ao34 t854.length co34, .slice Ao35 t855.length co35] 35 (0, 0)) (la_ BK829)) : gb881 ≠ gb829)); have n29_ := Aside0.mk ((by rw [hg]; exact Nat.ne_of_lt (blk_lt (g := gb840) (o := .cells #[.slice Ao38 t830.length co38, .slice Ao43 t833.length co43, .slice Ao44 t836.length co44] 35 (0, 0)) (la_ BK840)) : gb840 ≠ gb881)); have n30_ := Aside0.mk ((by rw [hg]; exact Nat.ne_of_gt (blk_lt (g := gb840) (o := .cells #[.slice Ao38 t830.length co38, .slice Ao43 t833.length co43, .slice Ao44 t836.length co44] 35 (0, 0)) (la_ BK840)) : gb881 ≠ gb840)); clear HO_820000; clear HO_820001; clear HO_820002; clear HO_830000; clear HO_830001; clear HO_830002; clear HO_841000; clear HO_841001; clear HO_841002; clear HO864; clear HO867; clear HO870; clear HO873; clear HO876; clear HO879; clear BK798; clear BK819; clear BK829; clear BK840; clear HB; have HO_820000 := n0_; have HO_820001 := n1_; have HO_820002 := n2_; have HO_830000 := n3_; have HO_830001 := n4_; have HO_830002 := n5_; have HO_841000 := n6_; have HO_841001 := n7_; have HO_841002 := n8_; have HO864 := n9_; have HO867 := n10_; have HO870 := n11_; have HO873 := n12_; have HO876 := n13_; have HO879 := n14_; have BK798 := n15_; have BK819 := n16_; have BK829 := n17_; have BK840 := n18_; have HB := n19_; have BK881 := n20_; have GW881 := n21_; have GE881 := n22_; have NB798_881 := n23_; have NB881_798 := n24_; have NB819_881 := n25_; have NB881_819 := n26_; have NB829_881 := n27_; have NB881_829 := n28_; have NB840_881 := n29_; have NB881_840 := n30_; clear n0_ n1_ n2_ n3_ n4_ n5_ n6_ n7_ n8_ n9_ n10_ n11_ n12_ n13_ n14_ n15_ n16_ n17_ n18_ n19_ n20_ n21_ n22_ n23_ n24_ n25_ n26_ n27_ n28_ n29_ n30_; clear hb hbox hg; obtain ⟨Ao123, co123, eo123⟩ := Kd.R_slice HO873.out; subst eo123; have hnb124 := NB881_798.out; have hnc124 := NB798_881.out; have hnb125 := NB881_819.out; have hnc125 := NB819_881.out; have hnb126 := NB881_829.out; have hnc126 := NB829_881.out; have hnb127 := NB881_840.out; have hnc127 := NB840_881.out; have hcz128_0 : w122.cell? ⟨gb881, 0, none⟩ = some (.slice none 0 0) := (blk_cell BK881.out 0).trans rfl; have hcz128_1 : w122.cell? ⟨gb881, 1, none⟩ = some (.slice none 0 0) := (blk_cell BK881.out 1).trans rfl; have hcz128_2 : w122.cell? ⟨gb881, 2, none⟩ = some (.slice none 0 0) := (blk_cell BK881.out 2).trans rfl; have hfz128_0 := blk_frozen BK881.out 0; have hfz128_1 := blk_frozen BK881.out 1; have hfz128_2 := blk_frozen BK881.out 2; obtain ⟨Ao129, co129, eo129⟩ := Kd.R_slice HO876.out; subst eo129; obtain ⟨Ao130, co130, eo130⟩ := Kd.R_slice HO879.out; subst eo130))
           (try simp only [Act.put, List.setIfInBounds_toArray, List.set_cons_zero, List.set_cons_succ])
           go_cut [87] (fun v87 wc => ∃ (kq : Nat) (x87_105 : Bool), v87 = .bool x87_105 ∧ Aside0 (laws_FnExactUndoEdit.j2 kq t857 x87_105 t858 t859 t860 = some r) ∧ Aside0 (kq ≤ kj67) ∧ Aside0 (Kd.R Kd.string 9 wc w.heap.size (fun k_ => some k_ ≠ ((.slice Ao30 t853.length co30) : Value).ownBlock ∧ some k_ ≠ ((.slice Ao38 t830.length co38) : Value).ownBlock ∧ some k_ ≠ ((.slice Ao123 t871.length co123) : Value).ownBlock) (.slice Ao22 t809.length co22) t809) ∧ Aside0 (Kd.R k25 25 wc w.heap.size (fun k_ => some k_ ≠ ((.slice Ao26 t815.length co26) : Value).ownBlock ∧ some k_ ≠ ((.slice Ao34 t854.length co34) : Value).ownBlock ∧ some k_ ≠ ((.slice Ao35 t855.length co35) : Value).ownBlock ∧ some k_ ≠ ((.slice Ao43 t833.length co43) : Value).ownBlock ∧ some k_ ≠ ((.slice Ao44 t836.length co44) : Value).ownBlock ∧ some k_ ≠ ((.slice Ao129 t874.length co129) : Value).ownBlock ∧ some k_ ≠ ((.slice Ao130 t877.length co130) : Value).ownBlock) (.slice Ao25 t812.length co25) t812) ∧ Aside0 (Kd.R k25 25 wc w.heap.size (fun k_ => some k_ ≠ ((.slice Ao25 t812.length co25) : Value).ownBlock ∧ some k_ ≠ ((.slice Ao34 t854.length co34) : Value).ownBlock ∧ some k_ ≠ ((.slice Ao35 t855.length co35) : Value).ownBlock ∧ some k_ ≠ ((.slice Ao43 t833.length co43) : Value).ownBlock ∧ some k_ ≠ ((.slice Ao44 t836.length co44) : Value).ownBlock ∧ some k_ ≠ ((.slice Ao129 t874.length co129) : Value).ownBlock ∧ some k_ ≠ ((.slice Ao130 t877.length co130) : Value).ownBlock) (.slice Ao26 t815.length co26) t815) ∧ Aside0 (Kd.R Kd.string 9 wc w.heap.size (fun k_ => some k_ ≠ ((.slice Ao22 t809.length co22) : Value).ownBlock ∧ some k_ ≠ ((.slice Ao38 t830.length co38) : Value).ownBlock ∧ some k_ ≠ ((.slice Ao123 t871.length co123) : Value).ownBlock) (.slice Ao30 t853.length co30) t853) ∧ Aside0 (Kd.R k25 25 wc w.heap.size (fun k_ => some k_ ≠ ((.slice Ao25 t812.length co25) : Value).ownBlock ∧ some k_ ≠ ((.slice Ao26 t815.length co26) : Value).ownBlock ∧ some k_ ≠ ((.slice Ao35 t855.length co35) : Value).ownBlock ∧ some k_ ≠ ((.slice Ao43 t833.length co43) : Value).ownBlock ∧ some k_ ≠ ((.slice Ao44 t836.length co44) : Value).ownBlock ∧ some k_ ≠ ((.slice Ao129 t874.length co129) : Value).ownBlock ∧ some k_ ≠ ((.slice Ao130 t877.length co130) : Value).ownBlock) (.slice Ao34 t854.length co34) t854) ∧ Aside0 (Kd.R k25 25 wc w.heap.size (fun k_ => some k_ ≠ ((.slice Ao25 t812.length co25) : Value).ownBlock ∧ some k_ ≠ ((.slice Ao26 t815.length co26) : Value).ownBlock ∧ some k_ ≠ ((.slice Ao34 t854.length co34) : Value).ownBlock ∧ some k_ ≠ ((.slice Ao43 t833.length co43) : Value).ownBlock ∧ some k_ ≠ ((.slice Ao44 t836.length co44) : Value).ownBlock ∧ some k_ ≠ ((.slice Ao129 t874.length co129) : Value).ownBlock ∧ some k_ ≠ ((.slice Ao130 t877.length co130) : Value).ownBlock) (.slice Ao35 t855.length co35) t855) ∧ Aside0 (Kd.R Kd.string 9 wc w.heap.size (fun k_ => some k_ ≠ ((.slice Ao22 t809.length co22) : Value).ownBlock ∧ some k_ ≠ ((.slice Ao30 t853.length co30) : Value).ownBlock ∧ some k_ ≠ ((.slice Ao123 t871.length co123) : Value).ownBlock) (.slice Ao38 t830.length co38) t858) ∧ Aside0 (Kd.R k25 25 wc w.heap.size (fun k_ => some k_ ≠ ((.slice Ao25 t812.length co25) : Value).ownBlock ∧ some k_ ≠ ((.slice Ao26 t815.length co26) : Value).ownBlock ∧ some k_ ≠ ((.slice Ao34 t854.length co34) : Value).ownBlock ∧ some k_ ≠ ((.slice Ao35 t855.length co35) : Value).ownBlock ∧ some k_ ≠ ((.slice Ao44 t836.length co44) : Value).ownBlock ∧ some k_ ≠ ((.slice Ao129 t874.length co129) : Value).ownBlock ∧ some k_ ≠ ((.slice Ao130 t877.length co130) : Value).ownBlock) (.slice Ao43 t833.length co43) t859) ∧ Aside0 (Kd.R k25 25 wc w.heap.size (fun k_ => some k_ ≠ ((.slice Ao25 t812.length co25) : Value).ownBlock ∧ some k_ ≠ ((.slice Ao26 t815.length co26) : Value).ownBlock ∧ some k_ ≠ ((.slice Ao34 t854.length co34) : Value).ownBlock ∧ some k_ ≠ ((.slice Ao35 t855.length co35) : Value).ownBlock ∧ some k_ ≠ ((.slice Ao43 t833.length co43) : Value).ownBlock ∧ some k_ ≠ ((.slice Ao129 t874.length co129) : Value).ownBlock ∧ some k_ ≠ ((.slice Ao130 t877.length co130) : Value).ownBlock) (.slice Ao44 t836.length co44) t860) ∧ Aside0 (Kd.R Kd.string 9 wc w.heap.size (fun k_ => some k_ ≠ ((.slice Ao22 t809.length co22) : Value).ownBlock ∧ some k_ ≠ ((.slice Ao30 t853.length co30) : Value).ownBlock ∧ some k_ ≠ ((.slice Ao38 t830.length co38) : Value).ownBlock) (.slice Ao123 t871.length co123) t871) ∧ Aside0 (Kd.R k25 25 wc w.heap.size (fun k_ => some k_ ≠ ((.slice Ao25 t812.length co25) : Value).ownBlock ∧ some k_ ≠ ((.slice Ao26 t815.length co26) : Value).ownBlock ∧ some k_ ≠ ((.slice Ao34 t854.length co34) : Value).ownBlock ∧ some k_ ≠ ((.slice Ao35 t855.length co35) : Value).ownBlock ∧ some k_ ≠ ((.slice Ao43 t833.length co43) : Value).ownBlock ∧ some k_ ≠ ((.slice Ao44 t836.length co44) : Value).ownBlock ∧ some k_ ≠ ((.slice Ao130 t877.length co130) : Value).ownBlock) (.slice Ao129 t874.length co129) t874) ∧ Aside0 (Kd.R k25 25 wc w.heap.size (fun k_ => some k_ ≠ ((.slice Ao25 t812.length co25) : Value).ownBlock ∧ some k_ ≠ ((.slice Ao26 t815.length co26) : Value).ownBlock ∧ some k_ ≠ ((.slice Ao34 t854.length co34) : Value).ownBlock ∧ some k_ ≠ ((.slice Ao35 t855.length co35) : Value).ownBlock ∧ some k_ ≠ ((.slice Ao43 t833.length co43) : Value).ownBlock ∧ some k_ ≠ ((.slice Ao44 t836.length co44) : Value).ownBlock ∧ some k_ ≠ ((.slice Ao129 t874.length co129) : Value).ownBlock) (.slice Ao130 t877.length co130) t877) ∧ Aside0 (wc.heap[gb798]? = some (.cells #[(.slice A0_0 l0_0.length c0_0), (.slice A0_1 l0_1.length c0_1), (.slice A0_2 l0_2.length c0_2)] 45 (0, 0))) ∧ Aside0 (wc.heap[gb819]? = some (.cells #[(.slice Ao22 t809.length co22), (.slice Ao25 t812.length co25), (.slice Ao26 t815.length co26)] 35 (0, 0))) ∧ Aside0 (wc.heap[gb829]? = some (.cells #[(.slice Ao30 t853.length co30), (.slice Ao34 t854.length co34), (.slice Ao35 t855.length co35)] 35 (0, 0))) ∧ Aside0 (wc.heap[gb840]? = some (.cells #[(.slice Ao38 t830.length co38), (.slice Ao43 t833.length co43), (.slice Ao44 t836.length co44)] 35 (0, 0))) ∧ Aside0 (wc.heap[gb881]? = some (.cells #[(.slice Ao123 t871.length co123), (.slice Ao129 t874.length co129), (.slice Ao130 t877.length co130)] 35 (0, 0))) ∧ Aside0 (Below w.heap.size w wc))
           case first =>
            have H := HC106.out
            clear HC106
            replace H := Option.bind_eq_some_iff.mp H
            obtain ⟨t882, A1310, H⟩ := H
            try dsimp only at H
            have A131 := Aside0.mk A1310
            clear A1310
            by_cases c132 : t882 = true
            ·subst c132
             have H1 : (laws_FnExactUndoEdit.j2 kj67 t857 (t880 != t818) t858 t859 t860) = some r := by rw [if_pos rfl] at H; exact H
             clear H
             have H := H1
             clear H1
             have H' := Aside0.mk H
             clear H
             have hnb133 := NB881_798.out
             have hnc133 := NB798_881.out
             have hnb134 := NB881_819.out
             have hnc134 := NB819_881.out
             have hnb135 := NB881_829.out
             have hnc135 := NB829_881.out
             have hnb136 := NB881_840.out
             have hnc136 := NB840_881.out
             have hcz137_0 : w122.cell? ⟨gb881, 0, none⟩ = some (.slice none 0 0) := (blk_cell BK881.out 0).trans rfl
             have hcz137_1 : w122.cell? ⟨gb881, 1, none⟩ = some (.slice none 0 0) := (blk_cell BK881.out 1).trans rfl
             have hcz137_2 : w122.cell? ⟨gb881, 2, none⟩ = some (.slice none 0 0) := (blk_cell BK881.out 2).trans rfl
             have hfz137_0 := blk_frozen BK881.out 0
             have hfz137_1 := blk_frozen BK881.out 1
             have hfz137_2 := blk_frozen BK881.out 2
             have hnb138 := NB819_798.out
             have hnc138 := NB798_819.out
             have hnb139 := NB819_829.out
             have hnc139 := NB829_819.out
             have hnb140 := NB819_840.out
             have hnc140 := NB840_819.out
             have hcz141_0 : w122.cell? ⟨gb819, 0, none⟩ = some (.slice Ao22 t809.length co22) := (blk_cell BK819.out 0).trans rfl
             have hcz141_1 : w122.cell? ⟨gb819, 1, none⟩ = some (.slice Ao25 t812.length co25) := (blk_cell BK819.out 1).trans rfl
             have hcz141_2 : w122.cell? ⟨gb819, 2, none⟩ = some (.slice Ao26 t815.length co26) := (blk_cell BK819.out 2).trans rfl
             have hfz141_0 := blk_frozen BK819.out 0
             have hfz141_1 := blk_frozen BK819.out 1
             have hfz141_2 := blk_frozen BK819.out 2
             go_wp2_with (first | ((with_reducible refine gate_callee (f := 23) rfl ?_); refine goesL_ (some 81) rfl rfl Try.func23 (by kernel_rfl) rfl #[.agg #[.slice Ao123 t871.length co123, .slice Ao129 t874.length co129, .slice Ao130 t877.length co130], .agg #[.slice Ao22 t809.length co22, .slice Ao25 t812.length co25, .slice Ao26 t815.length co26]] rfl args_ ?_; (with_reducible refine (laws_eqDesk.calls kj67 _ _ t871 _ _ t874 _ _ t877 _ _ t809 _ _ t812 _ _ t815 true _ ?side1 ?side2 ?side3 ?side4 ?side5 ?side6 ?side7 ?side8 ?side9 ?side10 ?side11 ?side12 A131.out).mono ?_); (case side1 => refine (Kd.R_reads' (e := 9) (base := w.heap.size) (ok := fun k_ => ((((True ∧ some k_ ≠ (.slice Ao22 t809.length co22 : Value).ownBlock) ∧ some k_ ≠ (.slice Ao30 t853.length co30 : Value).ownBlock) ∧ some k_ ≠ (.slice Ao38 t830.length co38 : Value).ownBlock) ∧ some k_ ≠ (.slice Ao118 t862.length co118 : Value).ownBlock)) (n := t871.length) (c := co123) ?_).2.2; exact (rf_ (fm_ (fr_ (fr_ (fr_ (ft_ HO873 BK881) 0 (.slice Ao123 t871.length co123)) 1 (.slice Ao129 t874.length co129)) 2 (.slice Ao130 t877.length co130))))); (case side2 => exact (Kd.R_reads' HO873.out).2.1); (case side3 => refine (Kd.R_reads' (e := 25) (base := w.heap.size) (ok := fun k_ => ((((((((some k_ ≠ (.slice Ao130 t877.length co130 : Value).ownBlock ∧ some k_ ≠ (.slice Ao25 t812.length co25 : Value).ownBlock) ∧ some k_ ≠ (.slice Ao26 t815.length co26 : Value).ownBlock) ∧ some k_ ≠ (.slice Ao34 t854.length co34 : Value).ownBlock) ∧ some k_ ≠ (.slice Ao35 t855.length co35 : Value).ownBlock) ∧ some k_ ≠ (.slice Ao43 t833.length co43 : Value).ownBlock) ∧ some k_ ≠ (.slice Ao44 t836.length co44 : Value).ownBlock) ∧ some k_ ≠ (.slice Ao119 t865.length co119 : Value).ownBlock) ∧ some k_ ≠ (.slice Ao120 t868.length co120 : Value).ownBlock)) (n := t874.length) (c := co129) ?_).2.2; exact (rf_ (fm_ (fr_ (fr_ (fr_ (ft_ HO876 BK881) 0 (.slice Ao123 t871.length co123)) 1 (.slice Ao129 t874.length co129)) 2 (.slice Ao130 t877.length co130))))); (case side4 => exact (Kd.R_reads' HO876.out).2.1); (case side5 => refine (Kd.R_reads' (e := 25) (base := w.heap.size) (ok := fun k_ => ((((((((some k_ ≠ (.slice Ao129 t874.length co129 : Value).ownBlock ∧ some k_ ≠ (.slice Ao25 t812.length co25 : Value).ownBlock) ∧ some k_ ≠ (.slice Ao26 t815.length co26 : Value).ownBlock) ∧ some k_ ≠ (.slice Ao34 t854.length co34 : Value).ownBlock) ∧ some k_ ≠ (.slice Ao35 t855.length co35 : Value).ownBlock) ∧ some k_ ≠ (.slice Ao43 t833.length co43 : Value).ownBlock) ∧ some k_ ≠ (.slice Ao44 t836.length co44 : Value).ownBlock) ∧ some k_ ≠ (.slice Ao119 t865.length co119 : Value).ownBlock) ∧ some k_ ≠ (.slice Ao120 t868.length co120 : Value).ownBlock)) (n := t877.length) (c := co130) ?_).2.2; exact (rf_ (fm_ (fr_ (fr_ (fr_ (ft_ HO879 BK881) 0 (.slice Ao123 t871.length co123)) 1 (.slice Ao129 t874.length co129)) 2 (.slice Ao130 t877.length co130))))); (case side6 => exact (Kd.R_reads' HO879.out).2.1); (case side7 => refine (Kd.R_reads' (e := 9) (base := w.heap.size) (ok := fun k_ => (((some k_ ≠ (.slice Ao30 t853.length co30 : Value).ownBlock ∧ some k_ ≠ (.slice Ao38 t830.length co38 : Value).ownBlock) ∧ some k_ ≠ (.slice Ao118 t862.length co118 : Value).ownBlock) ∧ some k_ ≠ (.slice Ao123 t871.length co123 : Value).ownBlock)) (n := t809.length) (c := co22) ?_).2.2; exact (rf_ (fm_ (fr_ (fr_ (fr_ (ft_ HO_820000 BK881) 0 (.slice Ao123 t871.length co123)) 1 (.slice Ao129 t874.length co129)) 2 (.slice Ao130 t877.length co130))))); (case side8 => exact (Kd.R_reads' HO_820000.out).2.1); (case side9 => refine (Kd.R_reads' (e := 25) (base := w.heap.size) (ok := fun k_ => (((((some k_ ≠ (.slice Ao26 t815.length co26 : Value).ownBlock ∧ (some k_ ≠ (.slice Ao34 t854.length co34 : Value).ownBlock ∧ (some k_ ≠ (.slice Ao35 t855.length co35 : Value).ownBlock ∧ (some k_ ≠ (.slice Ao43 t833.length co43 : Value).ownBlock ∧ some k_ ≠ (.slice Ao44 t836.length co44 : Value).ownBlock)))) ∧ some k_ ≠ (.slice Ao119 t865.length co119 : Value).ownBlock) ∧ some k_ ≠ (.slice Ao120 t868.length co120 : Value).ownBlock) ∧ some k_ ≠ (.slice Ao129 t874.length co129 : Value).ownBlock) ∧ some k_ ≠ (.slice Ao130 t877.length co130 : Value).ownBlock)) (n := t812.length) (c := co25) ?_).2.2; exact (rf_ (fm_ (fr_ (fr_ (fr_ (ft_ HO_820001 BK881) 0 (.slice Ao123 t871.length co123)) 1 (.slice Ao129 t874.length co129)) 2 (.slice Ao130 t877.length co130))))); (case side10 => exact (Kd.R_reads' HO_820001.out).2.1); (case side11 => refine (Kd.R_reads' (e := 25) (base := w.heap.size) (ok := fun k_ => (((((some k_ ≠ (.slice Ao25 t812.length co25 : Value).ownBlock ∧ (some k_ ≠ (.slice Ao34 t854.length co34 : Value).ownBlock ∧ (some k_ ≠ (.slice Ao35 t855.length co35 : Value).ownBlock ∧ (some k_ ≠ (.slice Ao43 t833.length co43 : Value).ownBlock ∧ some k_ ≠ (.slice Ao44 t836.length co44 : Value).ownBlock)))) ∧ some k_ ≠ (.slice Ao119 t865.length co119 : Value).ownBlock) ∧ some k_ ≠ (.slice Ao120 t868.length co120 : Value).ownBlock) ∧ some k_ ≠ (.slice Ao129 t874.length co129 : Value).ownBlock) ∧ some k_ ≠ (.slice Ao130 t877.length co130 : Value).ownBlock)) (n := t815.length) (c := co26) ?_).2.2; exact (rf_ (fm_ (fr_ (fr_ (fr_ (ft_ HO_820002 BK881) 0 (.slice Ao123 t871.length co123)) 1 (.slice Ao129 t874.length co129)) 2 (.slice Ao130 t877.length co130))))); (case side12 => exact (Kd.R_reads' HO_820002.out).2.1); rintro e w142 ⟨rfl, hb⟩; refine ⟨_, rfl, ?_⟩; have n0_ := Aside0.mk (Kd.R_below (rf_ (fm_ (fr_ (fr_ (fr_ (ft_ HO_820000 BK881) 0 (.slice Ao123 t871.length co123)) 1 (.slice Ao129 t874.length co129)) 2 (.slice Ao130 t877.length co130)))) hb); have n1_ := Aside0.mk (Kd.R_below (rf_ (fm_ (fr_ (fr_ (fr_ (ft_ HO_820001 BK881) 0 (.slice Ao123 t871.length co123)) 1 (.slice Ao129 t874.length co129)) 2 (.slice Ao130 t877.length co130)))) hb); have n2_ := Aside0.mk (Kd.R_below (rf_ (fm_ (fr_ (fr_ (fr_ (ft_ HO_820002 BK881) 0 (.slice Ao123 t871.length co123)) 1 (.slice Ao129 t874.length co129)) 2 (.slice Ao130 t877.length co130)))) hb); have n3_ := Aside0.mk (Kd.R_below (rf_ (fm_ (fr_ (fr_ (fr_ (ft_ HO_830000 BK881) 0 (.slice Ao123 t871.length co123)) 1 (.slice Ao129 t874.length co129)) 2 (.slice Ao130 t877.length co130)))) hb); have n4_ := Aside0.mk (Kd.R_below (rf_ (fm_ (fr_ (fr_ (fr_ (ft_ HO_830001 BK881) 0 (.slice Ao123 t871.length co123)) 1 (.slice Ao129 t874.length co129)) 2 (.slice Ao130 t877.length co130)))) hb); have n5_ := Aside0.mk (Kd.R_below (rf_ (fm_ (fr_ (fr_ (fr_ (ft_ HO_830002 BK881) 0 (.slice Ao123 t871.length co123)) 1 (.slice Ao129 t874.length co129)) 2 (.slice Ao130 t877.length co130)))) hb); have n6_ := Aside0.mk (Kd.R_below (rf_ (fm_ (fr_ (fr_ (fr_ (ft_ HO_841000 BK881) 0 (.slice Ao123 t871.length co123)) 1 (.slice Ao129 t874.length co129)) 2 (.slice Ao130 t877.length co130)))) hb); have n7_ := Aside0.mk (Kd.R_below (rf_ (fm_ (fr_ (fr_ (fr_ (ft_ HO_841001 BK881) 0 (.slice Ao123 t871.length co123)) 1 (.slice Ao129 t874.length co129)) 2 (.slice Ao130 t877.length co130)))) hb); have n8_ := Aside0.mk (Kd.R_below (rf_ (fm_ (fr_ (fr_ (fr_ (ft_ HO_841002 BK881) 0 (.slice Ao123 t871.length co123)) 1 (.slice Ao129 t874.length co129)) 2 (.slice Ao130 t877.length co130)))) hb); have n9_ := Aside0.mk (Kd.R_below (rf_ (fm_ (fr_ (fr_ (fr_ (ft_ HO864 BK881) 0 (.slice Ao123 t871.length co123)) 1 (.slice Ao129 t874.length co129)) 2 (.slice Ao130 t877.length co130)))) hb); have n10_ := Aside0.mk (Kd.R_below (rf_ (fm_ (fr_ (fr_ (fr_ (ft_ HO867 BK881) 0 (.slice Ao123 t871.length co123)) 1 (.slice Ao129 t874.length co129)) 2 (.slice Ao130 t877.length co130)))) hb); have n11_ := Aside0.mk (Kd.R_below (rf_ (fm_ (fr_ (fr_ (fr_ (ft_ HO870 BK881) 0 (.slice Ao123 t871.length co123)) 1 (.slice Ao129 t874.length co129)) 2 (.slice Ao130 t877.length co130)))) hb); have n12_ := Aside0.mk (Kd.R_below (rf_ (fm_ (fr_ (fr_ (fr_ (ft_ HO873 BK881) 0 (.slice Ao123 t871.length co123)) 1 (.slice Ao129 t874.length co129)) 2 (.slice Ao130 t877.length co130)))) hb); have n13_ := Aside0.mk (Kd.R_below (rf_ (fm_ (fr_ (fr_ (fr_ (ft_ HO876 BK881) 0 (.slice Ao123 t871.length co123)) 1 (.slice Ao129 t874.length co129)) 2 (.slice Ao130 t877.length co130)))) hb); have n14_ := Aside0.mk (Kd.R_below (rf_ (fm_ (fr_ (fr_ (fr_ (ft_ HO879 BK881) 0 (.slice Ao123 t871.length co123)) 1 (.slice Ao129 t874.length co129)) 2 (.slice Ao130 t877.length co130)))) hb); have n15_ := Aside0.mk (blk_below (g := gb798) (o := .cells #[.slice A0_0 l0_0.length c0_0, .slice A0_1 l0_1.length c0_1, .slice A0_2 l0_2.length c0_2] 45 (0, 0)) (by (with_reducible repeat (first | apply lN_ | apply lD_ | apply lA_)); refine blk_far ?_ NB798_881.out _; (with_reducible repeat (first | apply lN_ | apply lD_ | apply lA_)); refine blk_far ?_ NB798_881.out _; (with_reducible repeat (first | apply lN_ | apply lD_ | apply lA_)); refine blk_far ?_ NB798_881.out _; (with_reducible repeat (first | apply lN_ | apply lD_ | apply lA_)); exact BK798.out) hb); have n16_ := Aside0.mk (blk_below (g := gb819) (o := .cells #[.slice Ao22 t809.length co22, .slice Ao25 t812.length co25, .slice Ao26 t815.length co26] 35 (0, 0)) (by (with_reducible repeat (first | apply lN_ | apply lD_ | apply lA_)); refine blk_far ?_ NB819_881.out _; (with_reducible repeat (first | apply lN_ | apply lD_ | apply lA_)); refine blk_far ?_ NB819_881.out _; (with_reducible repeat (first | apply lN_ | apply lD_ | apply lA_)); refine blk_far ?_ NB819_881.out _; (with_reducible repeat (first | apply lN_ | apply lD_ | apply lA_)); exact BK819.out) hb); have n17_ := Aside0.mk (blk_below (g := gb829) (o := .cells #[.slice Ao30 t853.length co30, .slice Ao34 t854.length co34, .slice Ao35 t855.length co35] 35 (0, 0)) (by (with_reducible repeat (first | apply lN_ | apply lD_ | apply lA_)); refine blk_far ?_ NB829_881.out _; (with_reducible repeat (first | apply lN_ | apply lD_ | apply lA_)); refine blk_far ?_ NB829_881.out _; (with_reducible repeat (first | apply lN_ | apply lD_ | apply lA_)); refine blk_far ?_ NB829_881.out _; (with_reducible repeat (first | apply lN_ | apply lD_ | apply lA_)); exact BK829.out) hb); have n18_ := Aside0.mk (blk_below (g := gb840) (o := .cells #[.slice Ao38 t830.length co38, .slice Ao43 t833.length co43, .slice Ao44 t836.length co44] 35 (0, 0)) (by (with_reducible repeat (first | apply lN_ | apply lD_ | apply lA_)); refine blk_far ?_ NB840_881.out _; (with_reducible repeat (first | apply lN_ | apply lD_ | apply lA_)); refine blk_far ?_ NB840_881.out _; (with_reducible repeat (first | apply lN_ | apply lD_ | apply lA_)); refine blk_far ?_ NB840_881.out _; (with_reducible repeat (first | apply lN_ | apply lD_ | apply lA_)); exact BK840.out) hb); have n19_ := Aside0.mk (blk_below (g := gb881) (o := .cells #[.slice Ao123 t871.length co123, .slice Ao129 t874.length co129, .slice Ao130 t877.length co130] 35 (0, 0)) (by (with_reducible repeat (first | apply lN_ | apply lD_ | apply lA_)); refine blk_put (cs := #[.slice Ao123 t871.length co123, .slice Ao129 t874.length co129, .slice none 0 0]) ?_ 2 _ rfl; (with_reducible repeat (first | apply lN_ | apply lD_ | apply lA_)); refine blk_put (cs := #[.slice Ao123 t871.length co123, .slice none 0 0, .slice none 0 0]) ?_ 1 _ rfl; (with_reducible repeat (first | apply lN_ | apply lD_ | apply lA_)); refine blk_put (cs := #[.slice none 0 0, .slice none 0 0, .slice none 0 0]) ?_ 0 _ rfl; (with_reducible repeat (first | apply lN_ | apply lD_ | apply lA_)); exact BK881.out) hb); have n20_ := Aside0.mk (below_step (by repeat (first | (with_reducible first | exact HB.out | apply bA_ | apply bN_ | apply bD_ | refine bS_ ?_ GE798.out | refine bS_ ?_ GE819.out | refine bS_ ?_ GE829.out | refine bS_ ?_ GE840.out | refine bS_ ?_ GE881.out) | exact HB.out)) hb); clear HO_820000; clear HO_820001; clear HO_820002; clear HO_830000; clear HO_830001; clear HO_830002; clear HO_841000; clear HO_841001; clear HO_841002; clear HO864; clear HO867; clear HO870; clear HO873; clear HO876; clear HO879; clear BK798; clear BK819; clear BK829; clear BK840; clear BK881; clear HB; have HO_820000 := n0_; have HO_820001 := n1_; have HO_820002 := n2_; have HO_830000 := n3_; have HO_830001 := n4_; have HO_830002 := n5_; have HO_841000 := n6_; have HO_841001 := n7_; have HO_841002 := n8_; have HO864 := n9_; have HO867 := n10_; have HO870 := n11_; have HO873 := n12_; have HO876 := n13_; have HO879 := n14_; have BK798 := n15_; have BK819 := n16_; have BK829 := n17_; have BK840 := n18_; have BK881 := n19_; have HB := n20_; clear n0_ n1_ n2_ n3_ n4_ n5_ n6_ n7_ n8_ n9_ n10_ n11_ n12_ n13_ n14_ n15_ n16_ n17_ n18_ n19_ n20_; (try clear hb); (try clear hb2); (try clear hk); (try clear hi)))
             go_meet
             case rel => exact ⟨_, ((t880 != t818)), (by first | rfl | (simp; done) | (simp [*]; done)), H', ⟨by have := HJ10.out; have := HJ67.out; first | omega | exact Nat.le_refl _⟩, ⟨by (try simp only [hl830000_67]); (try simp only [hl830001_67]); (try simp only [hl830002_67]); (with_reducible repeat (first | apply rA_ | apply rN_ | apply rD_)); exact Kd.R_mono HO_820000.out (fun _ hk => ⟨hk.1.1.1, ⟨hk.1.1.2, hk.2⟩⟩)⟩, ⟨by (try simp only [hl830000_67]); (try simp only [hl830001_67]); (try simp only [hl830002_67]); (with_reducible repeat (first | apply rA_ | apply rN_ | apply rD_)); exact Kd.R_mono HO_820001.out (fun _ hk => ⟨hk.1.1.1.1.1, ⟨hk.1.1.1.1.2.1, ⟨hk.1.1.1.1.2.2.1, ⟨hk.1.1.1.1.2.2.2.1, ⟨hk.1.1.1.1.2.2.2.2, ⟨hk.1.2, hk.2⟩⟩⟩⟩⟩⟩)⟩, ⟨by (try simp only [hl830000_67]); (try simp only [hl830001_67]); (try simp only [hl830002_67]); (with_reducible repeat (first | apply rA_ | apply rN_ | apply rD_)); exact Kd.R_mono HO_820002.out (fun _ hk => ⟨hk.1.1.1.1.1, ⟨hk.1.1.1.1.2.1, ⟨hk.1.1.1.1.2.2.1, ⟨hk.1.1.1.1.2.2.2.1, ⟨hk.1.1.1.1.2.2.2.2, ⟨hk.1.2, hk.2⟩⟩⟩⟩⟩⟩)⟩, ⟨by (try simp only [hl830000_67]); (try simp only [hl830001_67]); (try simp only [hl830002_67]); (with_reducible repeat (first | apply rA_ | apply rN_ | apply rD_)); exact Kd.R_mono HO_830000.out (fun _ hk => ⟨hk.1.1.1, ⟨hk.1.1.2, hk.2⟩⟩)⟩, ⟨by (try simp only [hl830000_67]); (try simp only [hl830001_67]); (try simp only [hl830002_67]); (with_reducible repeat (first | apply rA_ | apply rN_ | apply rD_)); exact Kd.R_mono HO_830001.out (fun _ hk => ⟨hk.1.1.1.1.1, ⟨hk.1.1.1.1.2.1, ⟨hk.1.1.1.1.2.2.1, ⟨hk.1.1.1.1.2.2.2.1, ⟨hk.1.1.1.1.2.2.2.2, ⟨hk.1.2, hk.2⟩⟩⟩⟩⟩⟩)⟩, ⟨by (try simp only [hl830000_67]); (try simp only [hl830001_67]); (try simp only [hl830002_67]); (with_reducible repeat (first | apply rA_ | apply rN_ | apply rD_)); exact Kd.R_mono HO_830002.out (fun _ hk => ⟨hk.1.1.1.1.1, ⟨hk.1.1.1.1.2.1, ⟨hk.1.1.1.1.2.2.1, ⟨hk.1.1.1.1.2.2.2.1, ⟨hk.1.1.1.1.2.2.2.2, ⟨hk.1.2, hk.2⟩⟩⟩⟩⟩⟩)⟩, ⟨by (try simp only [hl830000_67]); (try simp only [hl830001_67]); (try simp only [hl830002_67]); (with_reducible repeat (first | apply rA_ | apply rN_ | apply rD_)); exact Kd.R_mono HO_841000.out (fun _ hk => ⟨hk.1.1.1, ⟨hk.1.1.2, hk.2⟩⟩)⟩, ⟨by (try simp only [hl830000_67]); (try simp only [hl830001_67]); (try simp only [hl830002_67]); (with_reducible repeat (first | apply rA_ | apply rN_ | apply rD_)); exact Kd.R_mono HO_841001.out (fun _ hk => ⟨hk.1.1.1.1.1, ⟨hk.1.1.1.1.2.1, ⟨hk.1.1.1.1.2.2.1, ⟨hk.1.1.1.1.2.2.2.1, ⟨hk.1.1.1.1.2.2.2.2, ⟨hk.1.2, hk.2⟩⟩⟩⟩⟩⟩)⟩, ⟨by (try simp only [hl830000_67]); (try simp only [hl830001_67]); (try simp only [hl830002_67]); (with_reducible repeat (first | apply rA_ | apply rN_ | apply rD_)); exact Kd.R_mono HO_841002.out (fun _ hk => ⟨hk.1.1.1.1.1, ⟨hk.1.1.1.1.2.1, ⟨hk.1.1.1.1.2.2.1, ⟨hk.1.1.1.1.2.2.2.1, ⟨hk.1.1.1.1.2.2.2.2, ⟨hk.1.2, hk.2⟩⟩⟩⟩⟩⟩)⟩, ⟨by (try simp only [hl830000_67]); (try simp only [hl830001_67]); (try simp only [hl830002_67]); (with_reducible repeat (first | apply rA_ | apply rN_ | apply rD_)); exact Kd.R_mono HO873.out (fun _ hk => ⟨hk.1.1.1.2, ⟨hk.1.1.2, hk.1.2⟩⟩)⟩, ⟨by (try simp only [hl830000_67]); (try simp only [hl830001_67]); (try simp only [hl830002_67]); (with_reducible repeat (first | apply rA_ | apply rN_ | apply rD_)); exact Kd.R_mono HO876.out (fun _ hk => ⟨hk.1.1.1.1.1.1.1.2, ⟨hk.1.1.1.1.1.1.2, ⟨hk.1.1.1.1.1.2, ⟨hk.1.1.1.1.2, ⟨hk.1.1.1.2, ⟨hk.1.1.2, hk.1.1.1.1.1.1.1.1⟩⟩⟩⟩⟩⟩)⟩, ⟨by (try simp only [hl830000_67]); (try simp only [hl830001_67]); (try simp only [hl830002_67]); (with_reducible repeat (first | apply rA_ | apply rN_ | apply rD_)); exact Kd.R_mono HO879.out (fun _ hk => ⟨hk.1.1.1.1.1.1.1.2, ⟨hk.1.1.1.1.1.1.2, ⟨hk.1.1.1.1.1.2, ⟨hk.1.1.1.1.2, ⟨hk.1.1.1.2, ⟨hk.1.1.2, hk.1.1.1.1.1.1.1.1⟩⟩⟩⟩⟩⟩)⟩, ⟨by (try simp only [hl830000_67]); (try simp only [hl830001_67]); (try simp only [hl830002_67]); (with_reducible repeat (first | apply lN_ | apply lD_ | apply lA_)); exact BK798.out⟩, ⟨by (try simp only [hl830000_67]); (try simp only [hl830001_67]); (try simp only [hl830002_67]); (with_reducible repeat (first | apply lN_ | apply lD_ | apply lA_)); exact BK819.out⟩, ⟨by (try simp only [hl830000_67]); (try simp only [hl830001_67]); (try simp only [hl830002_67]); (with_reducible repeat (first | apply lN_ | apply lD_ | apply lA_)); exact BK829.out⟩, ⟨by (try simp only [hl830000_67]); (try simp only [hl830001_67]); (try simp only [hl830002_67]); (with_reducible repeat (first | apply lN_ | apply lD_ | apply lA_)); exact BK840.out⟩, ⟨by (try simp only [hl830000_67]); (try simp only [hl830001_67]); (try simp only [hl830002_67]); (with_reducible repeat (first | apply lN_ | apply lD_ | apply lA_)); exact BK881.out⟩, ⟨by repeat (first | (with_reducible first | exact HB.out | apply bA_ | apply bN_ | apply bD_ | refine bS_ ?_ GE798.out | refine bS_ ?_ GE819.out | refine bS_ ?_ GE829.out | refine bS_ ?_ GE840.out | refine bS_ ?_ GE881.out) | exact HB.out)⟩⟩
            ·replace c132 := Bool.eq_false_iff.mpr c132
             subst c132
             have H1 : (laws_FnExactUndoEdit.j2 kj67 t857 true t858 t859 t860) = some r := by rw [if_neg (show ¬ (false = true) by decide)] at H; exact H
             clear H
             have H := H1
             clear H1
             have H' := Aside0.mk H
             clear H
             have hnb143 := NB881_798.out
             have hnc143 := NB798_881.out
             have hnb144 := NB881_819.out
             have hnc144 := NB819_881.out
             have hnb145 := NB881_829.out
             have hnc145 := NB829_881.out
             have hnb146 := NB881_840.out
             have hnc146 := NB840_881.out
             have hcz147_0 : w122.cell? ⟨gb881, 0, none⟩ = some (.slice none 0 0) := (blk_cell BK881.out 0).trans rfl
             have hcz147_1 : w122.cell? ⟨gb881, 1, none⟩ = some (.slice none 0 0) := (blk_cell BK881.out 1).trans rfl
             have hcz147_2 : w122.cell? ⟨gb881, 2, none⟩ = some (.slice none 0 0) := (blk_cell BK881.out 2).trans rfl
             have hfz147_0 := blk_frozen BK881.out 0
             have hfz147_1 := blk_frozen BK881.out 1
             have hfz147_2 := blk_frozen BK881.out 2
             have hnb148 := NB819_798.out
             have hnc148 := NB798_819.out
             have hnb149 := NB819_829.out
             have hnc149 := NB829_819.out
             have hnb150 := NB819_840.out
             have hnc150 := NB840_819.out
             have hcz151_0 : w122.cell? ⟨gb819, 0, none⟩ = some (.slice Ao22 t809.length co22) := (blk_cell BK819.out 0).trans rfl
             have hcz151_1 : w122.cell? ⟨gb819, 1, none⟩ = some (.slice Ao25 t812.length co25) := (blk_cell BK819.out 1).trans rfl
             have hcz151_2 : w122.cell? ⟨gb819, 2, none⟩ = some (.slice Ao26 t815.length co26) := (blk_cell BK819.out 2).trans rfl
             have hfz151_0 := blk_frozen BK819.out 0
             have hfz151_1 := blk_frozen BK819.out 1
             have hfz151_2 := blk_frozen BK819.out 2
             go_wp2_with (first | ((with_reducible refine gate_callee (f := 23) rfl ?_); refine goesL_ (some 81) rfl rfl Try.func23 (by kernel_rfl) rfl #[.agg #[.slice Ao123 t871.length co123, .slice Ao129 t874.length co129, .slice Ao130 t877.length co130], .agg #[.slice Ao22 t809.length co22, .slice Ao25 t812.length co25, .slice Ao26 t815.length co26]] rfl args_ ?_; (with_reducible refine (laws_eqDesk.calls kj67 _ _ t871 _ _ t874 _ _ t877 _ _ t809 _ _ t812 _ _ t815 false _ ?side1 ?side2 ?side3 ?side4 ?side5 ?side6 ?side7 ?side8 ?side9 ?side10 ?side11 ?side12 A131.out).mono ?_); (case side1 => refine (Kd.R_reads' (e := 9) (base := w.heap.size) (ok := fun k_ => ((((True ∧ some k_ ≠ (.slice Ao22 t809.length co22 : Value).ownBlock) ∧ some k_ ≠ (.slice Ao30 t853.length co30 : Value).ownBlock) ∧ some k_ ≠ (.slice Ao38 t830.length co38 : Value).ownBlock) ∧ some k_ ≠ (.slice Ao118 t862.length co118 : Value).ownBlock)) (n := t871.length) (c := co123) ?_).2.2; exact (rf_ (fm_ (fr_ (fr_ (fr_ (ft_ HO873 BK881) 0 (.slice Ao123 t871.length co123)) 1 (.slice Ao129 t874.length co129)) 2 (.slice Ao130 t877.length co130))))); (case side2 => exact (Kd.R_reads' HO873.out).2.1); (case side3 => refine (Kd.R_reads' (e := 25) (base := w.heap.size) (ok := fun k_ => ((((((((some k_ ≠ (.slice Ao130 t877.length co130 : Value).ownBlock ∧ some k_ ≠ (.slice Ao25 t812.length co25 : Value).ownBlock) ∧ some k_ ≠ (.slice Ao26 t815.length co26 : Value).ownBlock) ∧ some k_ ≠ (.slice Ao34 t854.length co34 : Value).ownBlock) ∧ some k_ ≠ (.slice Ao35 t855.length co35 : Value).ownBlock) ∧ some k_ ≠ (.slice Ao43 t833.length co43 : Value).ownBlock) ∧ some k_ ≠ (.slice Ao44 t836.length co44 : Value).ownBlock) ∧ some k_ ≠ (.slice Ao119 t865.length co119 : Value).ownBlock) ∧ some k_ ≠ (.slice Ao120 t868.length co120 : Value).ownBlock)) (n := t874.length) (c := co129) ?_).2.2; exact (rf_ (fm_ (fr_ (fr_ (fr_ (ft_ HO876 BK881) 0 (.slice Ao123 t871.length co123)) 1 (.slice Ao129 t874.length co129)) 2 (.slice Ao130 t877.length co130))))); (case side4 => exact (Kd.R_reads' HO876.out).2.1); (case side5 => refine (Kd.R_reads' (e := 25) (base := w.heap.size) (ok := fun k_ => ((((((((some k_ ≠ (.slice Ao129 t874.length co129 : Value).ownBlock ∧ some k_ ≠ (.slice Ao25 t812.length co25 : Value).ownBlock) ∧ some k_ ≠ (.slice Ao26 t815.length co26 : Value).ownBlock) ∧ some k_ ≠ (.slice Ao34 t854.length co34 : Value).ownBlock) ∧ some k_ ≠ (.slice Ao35 t855.length co35 : Value).ownBlock) ∧ some k_ ≠ (.slice Ao43 t833.length co43 : Value).ownBlock) ∧ some k_ ≠ (.slice Ao44 t836.length co44 : Value).ownBlock) ∧ some k_ ≠ (.slice Ao119 t865.length co119 : Value).ownBlock) ∧ some k_ ≠ (.slice Ao120 t868.length co120 : Value).ownBlock)) (n := t877.length) (c := co130) ?_).2.2; exact (rf_ (fm_ (fr_ (fr_ (fr_ (ft_ HO879 BK881) 0 (.slice Ao123 t871.length co123)) 1 (.slice Ao129 t874.length co129)) 2 (.slice Ao130 t877.length co130))))); (case side6 => exact (Kd.R_reads' HO879.out).2.1); (case side7 => refine (Kd.R_reads' (e := 9) (base := w.heap.size) (ok := fun k_ => (((some k_ ≠ (.slice Ao30 t853.length co30 : Value).ownBlock ∧ some k_ ≠ (.slice Ao38 t830.length co38 : Value).ownBlock) ∧ some k_ ≠ (.slice Ao118 t862.length co118 : Value).ownBlock) ∧ some k_ ≠ (.slice Ao123 t871.length co123 : Value).ownBlock)) (n := t809.length) (c := co22) ?_).2.2; exact (rf_ (fm_ (fr_ (fr_ (fr_ (ft_ HO_820000 BK881) 0 (.slice Ao123 t871.length co123)) 1 (.slice Ao129 t874.length co129)) 2 (.slice Ao130 t877.length co130))))); (case side8 => exact (Kd.R_reads' HO_820000.out).2.1); (case side9 => refine (Kd.R_reads' (e := 25) (base := w.heap.size) (ok := fun k_ => (((((some k_ ≠ (.slice Ao26 t815.length co26 : Value).ownBlock ∧ (some k_ ≠ (.slice Ao34 t854.length co34 : Value).ownBlock ∧ (some k_ ≠ (.slice Ao35 t855.length co35 : Value).ownBlock ∧ (some k_ ≠ (.slice Ao43 t833.length co43 : Value).ownBlock ∧ some k_ ≠ (.slice Ao44 t836.length co44 : Value).ownBlock)))) ∧ some k_ ≠ (.slice Ao119 t865.length co119 : Value).ownBlock) ∧ some k_ ≠ (.slice Ao120 t868.length co120 : Value).ownBlock) ∧ some k_ ≠ (.slice Ao129 t874.length co129 : Value).ownBlock) ∧ some k_ ≠ (.slice Ao130 t877.length co130 : Value).ownBlock)) (n := t812.length) (c := co25) ?_).2.2; exact (rf_ (fm_ (fr_ (fr_ (fr_ (ft_ HO_820001 BK881) 0 (.slice Ao123 t871.length co123)) 1 (.slice Ao129 t874.length co129)) 2 (.slice Ao130 t877.length co130))))); (case side10 => exact (Kd.R_reads' HO_820001.out).2.1); (case side11 => refine (Kd.R_reads' (e := 25) (base := w.heap.size) (ok := fun k_ => (((((some k_ ≠ (.slice Ao25 t812.length co25 : Value).ownBlock ∧ (some k_ ≠ (.slice Ao34 t854.length co34 : Value).ownBlock ∧ (some k_ ≠ (.slice Ao35 t855.length co35 : Value).ownBlock ∧ (some k_ ≠ (.slice Ao43 t833.length co43 : Value).ownBlock ∧ some k_ ≠ (.slice Ao44 t836.length co44 : Value).ownBlock)))) ∧ some k_ ≠ (.slice Ao119 t865.length co119 : Value).ownBlock) ∧ some k_ ≠ (.slice Ao120 t868.length co120 : Value).ownBlock) ∧ some k_ ≠ (.slice Ao129 t874.length co129 : Value).ownBlock) ∧ some k_ ≠ (.slice Ao130 t877.length co130 : Value).ownBlock)) (n := t815.length) (c := co26) ?_).2.2; exact (rf_ (fm_ (fr_ (fr_ (fr_ (ft_ HO_820002 BK881) 0 (.slice Ao123 t871.length co123)) 1 (.slice Ao129 t874.length co129)) 2 (.slice Ao130 t877.length co130))))); (case side12 => exact (Kd.R_reads' HO_820002.out).2.1); rintro e w152 ⟨rfl, hb⟩; refine ⟨_, rfl, ?_⟩; have n0_ := Aside0.mk (Kd.R_below (rf_ (fm_ (fr_ (fr_ (fr_ (ft_ HO_820000 BK881) 0 (.slice Ao123 t871.length co123)) 1 (.slice Ao129 t874.length co129)) 2 (.slice Ao130 t877.length co130)))) hb); have n1_ := Aside0.mk (Kd.R_below (rf_ (fm_ (fr_ (fr_ (fr_ (ft_ HO_820001 BK881) 0 (.slice Ao123 t871.length co123)) 1 (.slice Ao129 t874.length co129)) 2 (.slice Ao130 t877.length co130)))) hb); have n2_ := Aside0.mk (Kd.R_below (rf_ (fm_ (fr_ (fr_ (fr_ (ft_ HO_820002 BK881) 0 (.slice Ao123 t871.length co123)) 1 (.slice Ao129 t874.length co129)) 2 (.slice Ao130 t877.length co130)))) hb); have n3_ := Aside0.mk (Kd.R_below (rf_ (fm_ (fr_ (fr_ (fr_ (ft_ HO_830000 BK881) 0 (.slice Ao123 t871.length co123)) 1 (.slice Ao129 t874.length co129)) 2 (.slice Ao130 t877.length co130)))) hb); have n4_ := Aside0.mk (Kd.R_below (rf_ (fm_ (fr_ (fr_ (fr_ (ft_ HO_830001 BK881) 0 (.slice Ao123 t871.length co123)) 1 (.slice Ao129 t874.length co129)) 2 (.slice Ao130 t877.length co130)))) hb); have n5_ := Aside0.mk (Kd.R_below (rf_ (fm_ (fr_ (fr_ (fr_ (ft_ HO_830002 BK881) 0 (.slice Ao123 t871.length co123)) 1 (.slice Ao129 t874.length co129)) 2 (.slice Ao130 t877.length co130)))) hb); have n6_ := Aside0.mk (Kd.R_below (rf_ (fm_ (fr_ (fr_ (fr_ (ft_ HO_841000 BK881) 0 (.slice Ao123 t871.length co123)) 1 (.slice Ao129 t874.length co129)) 2 (.slice Ao130 t877.length co130)))) hb); have n7_ := Aside0.mk (Kd.R_below (rf_ (fm_ (fr_ (fr_ (fr_ (ft_ HO_841001 BK881) 0 (.slice Ao123 t871.length co123)) 1 (.slice Ao129 t874.length co129)) 2 (.slice Ao130 t877.length co130)))) hb); have n8_ := Aside0.mk (Kd.R_below (rf_ (fm_ (fr_ (fr_ (fr_ (ft_ HO_841002 BK881) 0 (.slice Ao123 t871.length co123)) 1 (.slice Ao129 t874.length co129)) 2 (.slice Ao130 t877.length co130)))) hb); have n9_ := Aside0.mk (Kd.R_below (rf_ (fm_ (fr_ (fr_ (fr_ (ft_ HO864 BK881) 0 (.slice Ao123 t871.length co123)) 1 (.slice Ao129 t874.length co129)) 2 (.slice Ao130 t877.length co130)))) hb); have n10_ := Aside0.mk (Kd.R_below (rf_ (fm_ (fr_ (fr_ (fr_ (ft_ HO867 BK881) 0 (.slice Ao123 t871.length co123)) 1 (.slice Ao129 t874.length co129)) 2 (.slice Ao130 t877.length co130)))) hb); have n11_ := Aside0.mk (Kd.R_below (rf_ (fm_ (fr_ (fr_ (fr_ (ft_ HO870 BK881) 0 (.slice Ao123 t871.length co123)) 1 (.slice Ao129 t874.length co129)) 2 (.slice Ao130 t877.length co130)))) hb); have n12_ := Aside0.mk (Kd.R_below (rf_ (fm_ (fr_ (fr_ (fr_ (ft_ HO873 BK881) 0 (.slice Ao123 t871.length co123)) 1 (.slice Ao129 t874.length co129)) 2 (.slice Ao130 t877.length co130)))) hb); have n13_ := Aside0.mk (Kd.R_below (rf_ (fm_ (fr_ (fr_ (fr_ (ft_ HO876 BK881) 0 (.slice Ao123 t871.length co123)) 1 (.slice Ao129 t874.length co129)) 2 (.slice Ao130 t877.length co130)))) hb); have n14_ := Aside0.mk (Kd.R_below (rf_ (fm_ (fr_ (fr_ (fr_ (ft_ HO879 BK881) 0 (.slice Ao123 t871.length co123)) 1 (.slice Ao129 t874.length co129)) 2 (.slice Ao130 t877.length co130)))) hb); have n15_ := Aside0.mk (blk_below (g := gb798) (o := .cells #[.slice A0_0 l0_0.length c0_0, .slice A0_1 l0_1.length c0_1, .slice A0_2 l0_2.length c0_2] 45 (0, 0)) (by (with_reducible repeat (first | apply lN_ | apply lD_ | apply lA_)); refine blk_far ?_ NB798_881.out _; (with_reducible repeat (first | apply lN_ | apply lD_ | apply lA_)); refine blk_far ?_ NB798_881.out _; (with_reducible repeat (first | apply lN_ | apply lD_ | apply lA_)); refine blk_far ?_ NB798_881.out _; (with_reducible repeat (first | apply lN_ | apply lD_ | apply lA_)); exact BK798.out) hb); have n16_ := Aside0.mk (blk_below (g := gb819) (o := .cells #[.slice Ao22 t809.length co22, .slice Ao25 t812.length co25, .slice Ao26 t815.length co26] 35 (0, 0)) (by (with_reducible repeat (first | apply lN_ | apply lD_ | apply lA_)); refine blk_far ?_ NB819_881.out _; (with_reducible repeat (first | apply lN_ | apply lD_ | apply lA_)); refine blk_far ?_ NB819_881.out _; (with_reducible repeat (first | apply lN_ | apply lD_ | apply lA_)); refine blk_far ?_ NB819_881.out _; (with_reducible repeat (first | apply lN_ | apply lD_ | apply lA_)); exact BK819.out) hb); have n17_ := Aside0.mk (blk_below (g := gb829) (o := .cells #[.slice Ao30 t853.length co30, .slice Ao34 t854.length co34, .slice Ao35 t855.length co35] 35 (0, 0)) (by (with_reducible repeat (first | apply lN_ | apply lD_ | apply lA_)); refine blk_far ?_ NB829_881.out _; (with_reducible repeat (first | apply lN_ | apply lD_ | apply lA_)); refine blk_far ?_ NB829_881.out _; (with_reducible repeat (first | apply lN_ | apply lD_ | apply lA_)); refine blk_far ?_ NB829_881.out _; (with_reducible repeat (first | apply lN_ | apply lD_ | apply lA_)); exact BK829.out) hb); have n18_ := Aside0.mk (blk_below (g := gb840) (o := .cells #[.slice Ao38 t830.length co38, .slice Ao43 t833.length co43, .slice Ao44 t836.length co44] 35 (0, 0)) (by (with_reducible repeat (first | apply lN_ | apply lD_ | apply lA_)); refine blk_far ?_ NB840_881.out _; (with_reducible repeat (first | apply lN_ | apply lD_ | apply lA_)); refine blk_far ?_ NB840_881.out _; (with_reducible repeat (first | apply lN_ | apply lD_ | apply lA_)); refine blk_far ?_ NB840_881.out _; (with_reducible repeat (first | apply lN_ | apply lD_ | apply lA_)); exact BK840.out) hb); have n19_ := Aside0.mk (blk_below (g := gb881) (o := .cells #[.slice Ao123 t871.length co123, .slice Ao129 t874.length co129, .slice Ao130 t877.length co130] 35 (0, 0)) (by (with_reducible repeat (first | apply lN_ | apply lD_ | apply lA_)); refine blk_put (cs := #[.slice Ao123 t871.length co123, .slice Ao129 t874.length co129, .slice none 0 0]) ?_ 2 _ rfl; (with_reducible repeat (first | apply lN_ | apply lD_ | apply lA_)); refine blk_put (cs := #[.slice Ao123 t871.length co123, .slice none 0 0, .slice none 0 0]) ?_ 1 _ rfl; (with_reducible repeat (first | apply lN_ | apply lD_ | apply lA_)); refine blk_put (cs := #[.slice none 0 0, .slice none 0 0, .slice none 0 0]) ?_ 0 _ rfl; (with_reducible repeat (first | apply lN_ | apply lD_ | apply lA_)); exact BK881.out) hb); have n20_ := Aside0.mk (below_step (by repeat (first | (with_reducible first | exact HB.out | apply bA_ | apply bN_ | apply bD_ | refine bS_ ?_ GE798.out | refine bS_ ?_ GE819.out | refine bS_ ?_ GE829.out | refine bS_ ?_ GE840.out | refine bS_ ?_ GE881.out) | exact HB.out)) hb); clear HO_820000; clear HO_820001; clear HO_820002; clear HO_830000; clear HO_830001; clear HO_830002; clear HO_841000; clear HO_841001; clear HO_841002; clear HO864; clear HO867; clear HO870; clear HO873; clear HO876; clear HO879; clear BK798; clear BK819; clear BK829; clear BK840; clear BK881; clear HB; have HO_820000 := n0_; have HO_820001 := n1_; have HO_820002 := n2_; have HO_830000 := n3_; have HO_830001 := n4_; have HO_830002 := n5_; have HO_841000 := n6_; have HO_841001 := n7_; have HO_841002 := n8_; have HO864 := n9_; have HO867 := n10_; have HO870 := n11_; have HO873 := n12_; have HO876 := n13_; have HO879 := n14_; have BK798 := n15_; have BK819 := n16_; have BK829 := n17_; have BK840 := n18_; have BK881 := n19_; have HB := n20_; clear n0_ n1_ n2_ n3_ n4_ n5_ n6_ n7_ n8_ n9_ n10_ n11_ n12_ n13_ n14_ n15_ n16_ n17_ n18_ n19_ n20_; (try clear hb); (try clear hb2); (try clear hk); (try clear hi)))
             go_meet
             case rel => exact ⟨_, (true), (by first | rfl | (simp; done) | (simp [*]; done)), H', ⟨by have := HJ10.out; have := HJ67.out; first | omega | exact Nat.le_refl _⟩, ⟨by (try simp only [hl830000_67]); (try simp only [hl830001_67]); (try simp only [hl830002_67]); (with_reducible repeat (first | apply rA_ | apply rN_ | apply rD_)); exact Kd.R_mono HO_820000.out (fun _ hk => ⟨hk.1.1.1, ⟨hk.1.1.2, hk.2⟩⟩)⟩, ⟨by (try simp only [hl830000_67]); (try simp only [hl830001_67]); (try simp only [hl830002_67]); (with_reducible repeat (first | apply rA_ | apply rN_ | apply rD_)); exact Kd.R_mono HO_820001.out (fun _ hk => ⟨hk.1.1.1.1.1, ⟨hk.1.1.1.1.2.1, ⟨hk.1.1.1.1.2.2.1, ⟨hk.1.1.1.1.2.2.2.1, ⟨hk.1.1.1.1.2.2.2.2, ⟨hk.1.2, hk.2⟩⟩⟩⟩⟩⟩)⟩, ⟨by (try simp only [hl830000_67]); (try simp only [hl830001_67]); (try simp only [hl830002_67]); (with_reducible repeat (first | apply rA_ | apply rN_ | apply rD_)); exact Kd.R_mono HO_820002.out (fun _ hk => ⟨hk.1.1.1.1.1, ⟨hk.1.1.1.1.2.1, ⟨hk.1.1.1.1.2.2.1, ⟨hk.1.1.1.1.2.2.2.1, ⟨hk.1.1.1.1.2.2.2.2, ⟨hk.1.2, hk.2⟩⟩⟩⟩⟩⟩)⟩, ⟨by (try simp only [hl830000_67]); (try simp only [hl830001_67]); (try simp only [hl830002_67]); (with_reducible repeat (first | apply rA_ | apply rN_ | apply rD_)); exact Kd.R_mono HO_830000.out (fun _ hk => ⟨hk.1.1.1, ⟨hk.1.1.2, hk.2⟩⟩)⟩, ⟨by (try simp only [hl830000_67]); (try simp only [hl830001_67]); (try simp only [hl830002_67]); (with_reducible repeat (first | apply rA_ | apply rN_ | apply rD_)); exact Kd.R_mono HO_830001.out (fun _ hk => ⟨hk.1.1.1.1.1, ⟨hk.1.1.1.1.2.1, ⟨hk.1.1.1.1.2.2.1, ⟨hk.1.1.1.1.2.2.2.1, ⟨hk.1.1.1.1.2.2.2.2, ⟨hk.1.2, hk.2⟩⟩⟩⟩⟩⟩)⟩, ⟨by (try simp only [hl830000_67]); (try simp only [hl830001_67]); (try simp only [hl830002_67]); (with_reducible repeat (first | apply rA_ | apply rN_ | apply rD_)); exact Kd.R_mono HO_830002.out (fun _ hk => ⟨hk.1.1.1.1.1, ⟨hk.1.1.1.1.2.1, ⟨hk.1.1.1.1.2.2.1, ⟨hk.1.1.1.1.2.2.2.1, ⟨hk.1.1.1.1.2.2.2.2, ⟨hk.1.2, hk.2⟩⟩⟩⟩⟩⟩)⟩, ⟨by (try simp only [hl830000_67]); (try simp only [hl830001_67]); (try simp only [hl830002_67]); (with_reducible repeat (first | apply rA_ | apply rN_ | apply rD_)); exact Kd.R_mono HO_841000.out (fun _ hk => ⟨hk.1.1.1, ⟨hk.1.1.2, hk.2⟩⟩)⟩, ⟨by (try simp only [hl830000_67]); (try simp only [hl830001_67]); (try simp only [hl830002_67]); (with_reducible repeat (first | apply rA_ | apply rN_ | apply rD_)); exact Kd.R_mono HO_841001.out (fun _ hk => ⟨hk.1.1.1.1.1, ⟨hk.1.1.1.1.2.1, ⟨hk.1.1.1.1.2.2.1, ⟨hk.1.1.1.1.2.2.2.1, ⟨hk.1.1.1.1.2.2.2.2, ⟨hk.1.2, hk.2⟩⟩⟩⟩⟩⟩)⟩, ⟨by (try simp only [hl830000_67]); (try simp only [hl830001_67]); (try simp only [hl830002_67]); (with_reducible repeat (first | apply rA_ | apply rN_ | apply rD_)); exact Kd.R_mono HO_841002.out (fun _ hk => ⟨hk.1.1.1.1.1, ⟨hk.1.1.1.1.2.1, ⟨hk.1.1.1.1.2.2.1, ⟨hk.1.1.1.1.2.2.2.1, ⟨hk.1.1.1.1.2.2.2.2, ⟨hk.1.2, hk.2⟩⟩⟩⟩⟩⟩)⟩, ⟨by (try simp only [hl830000_67]); (try simp only [hl830001_67]); (try simp only [hl830002_67]); (with_reducible repeat (first | apply rA_ | apply rN_ | apply rD_)); exact Kd.R_mono HO873.out (fun _ hk => ⟨hk.1.1.1.2, ⟨hk.1.1.2, hk.1.2⟩⟩)⟩, ⟨by (try simp only [hl830000_67]); (try simp only [hl830001_67]); (try simp only [hl830002_67]); (with_reducible repeat (first | apply rA_ | apply rN_ | apply rD_)); exact Kd.R_mono HO876.out (fun _ hk => ⟨hk.1.1.1.1.1.1.1.2, ⟨hk.1.1.1.1.1.1.2, ⟨hk.1.1.1.1.1.2, ⟨hk.1.1.1.1.2, ⟨hk.1.1.1.2, ⟨hk.1.1.2, hk.1.1.1.1.1.1.1.1⟩⟩⟩⟩⟩⟩)⟩, ⟨by (try simp only [hl830000_67]); (try simp only [hl830001_67]); (try simp only [hl830002_67]); (with_reducible repeat (first | apply rA_ | apply rN_ | apply rD_)); exact Kd.R_mono HO879.out (fun _ hk => ⟨hk.1.1.1.1.1.1.1.2, ⟨hk.1.1.1.1.1.1.2, ⟨hk.1.1.1.1.1.2, ⟨hk.1.1.1.1.2, ⟨hk.1.1.1.2, ⟨hk.1.1.2, hk.1.1.1.1.1.1.1.1⟩⟩⟩⟩⟩⟩)⟩, ⟨by (try simp only [hl830000_67]); (try simp only [hl830001_67]); (try simp only [hl830002_67]); (with_reducible repeat (first | apply lN_ | apply lD_ | apply lA_)); exact BK798.out⟩, ⟨by (try simp only [hl830000_67]); (try simp only [hl830001_67]); (try simp only [hl830002_67]); (with_reducible repeat (first | apply lN_ | apply lD_ | apply lA_)); exact BK819.out⟩, ⟨by (try simp only [hl830000_67]); (try simp only [hl830001_67]); (try simp only [hl830002_67]); (with_reducible repeat (first | apply lN_ | apply lD_ | apply lA_)); exact BK829.out⟩, ⟨by (try simp only [hl830000_67]); (try simp only [hl830001_67]); (try simp only [hl830002_67]); (with_reducible repeat (first | apply lN_ | apply lD_ | apply lA_)); exact BK840.out⟩, ⟨by (try simp only [hl830000_67]); (try simp only [hl830001_67]); (try simp only [hl830002_67]); (with_reducible repeat (first | apply lN_ | apply lD_ | apply lA_)); exact BK881.out⟩, ⟨by repeat (first | (with_reducible first | exact HB.out | apply bA_ | apply bN_ | apply bD_ | refine bS_ ?_ GE798.out | refine bS_ ?_ GE819.out | refine bS_ ?_ GE829.out | refine bS_ ?_ GE840.out | refine bS_ ?_ GE881.out) | exact HB.out)⟩⟩
           case rest =>
            clear HC106
            try clear c1
            try clear c2
            try clear p2
            try clear c3
            try clear c3b0
            try clear c4
            try clear c5
            try clear c6
            try clear c7
            try clear c8
            try clear c9
            try clear c10
            try clear c11
            try clear c12
            try clear c13
            try clear c14
            try clear c15
            try clear c23
            try clear c26
            try clear c27
            try clear c28
            try clear c30
            try clear c31
            try clear c32
            try clear c39
            try clear c40
            try clear c41
            try clear c46
            try clear c47
            try clear c48
            try clear c49
            try clear c51
            try clear c52
            try clear c55
            try clear c56
            try clear c57
            try clear c59
            try clear c60
            try clear c63
            try clear c66
            try clear c75
            try clear c76
            try clear c77
            try clear c80
            try clear c80b0
            try clear c82
            try clear c83
            try clear c84
            try clear c85
            try clear c87
            try clear c88
            try clear c91
            try clear c92
            try clear c93
            try clear c95
            try clear c96
            try clear c99
            try clear c102
            try clear c102b0
            try clear c103
            try clear c103b0
            try clear c103b1
            try clear c107
            try clear c108
            try clear c109
            try clear c114
            try clear c115
            try clear c124
            try clear c125
            try clear c126
            try clear c127
            try clear c132
            try clear c133
            try clear c134
            try clear c135
            try clear c136
            try clear c138
            try clear c139
            try clear c140
            try clear c143
            try clear c144
            try clear c145
            try clear c146
            try clear c148
            try clear c149
            try clear c150
            try clear hcz110_0
            try clear hcz110_1
            try clear hcz110_2
            try clear hcz112_0
            try clear hcz112_1
            try clear hcz112_2
            try clear hcz116_0
            try clear hcz116_1
            try clear hcz116_2
            try clear hcz128_0
            try clear hcz128_1
            try clear hcz128_2
            try clear hcz137_0
            try clear hcz137_1
            try clear hcz137_2
            try clear hcz13_0
            try clear hcz13_1
            try clear hcz13_2
            try clear hcz141_0
            try clear hcz141_1
            try clear hcz141_2
            try clear hcz147_0
            try clear hcz147_1
            try clear hcz147_2
            try clear hcz151_0
            try clear hcz151_1
            try clear hcz151_2
            try clear hcz15_0
            try clear hcz15_1
            try clear hcz15_2
            try clear hcz24_0
            try clear hcz24_1
            try clear hcz24_2
            try clear hcz27_0
            try clear hcz27_1
            try clear hcz27_2
            try clear hcz33_0
            try clear hcz33_1
            try clear hcz33_2
            try clear hcz42_0
            try clear hcz42_1
            try clear hcz42_2
            try clear hcz50_0
            try clear hcz50_1
            try clear hcz50_2
            try clear hcz53_0
            try clear hcz53_1
            try clear hcz53_2
            try clear hcz58_0
            try clear hcz58_1
            try clear hcz58_2
            try clear hcz5_0
            try clear hcz5_1
            try clear hcz5_2
            try clear hcz61_0
            try clear hcz61_1
            try clear hcz61_2
            try clear hcz78_0
            try clear hcz78_1
            try clear hcz78_2
            try clear hcz86_0
            try clear hcz86_1
            try clear hcz86_2
            try clear hcz89_0
            try clear hcz89_1
            try clear hcz89_2
            try clear hcz94_0
            try clear hcz94_1
            try clear hcz94_2
            try clear hcz97_0
            try clear hcz97_1
            try clear hcz97_2
            try clear hfz110_0
            try clear hfz110_1
            try clear hfz110_2
            try clear hfz112_0
            try clear hfz112_1
            try clear hfz112_2
            try clear hfz116_0
            try clear hfz116_1
            try clear hfz116_2
            try clear hfz128_0
            try clear hfz128_1
            try clear hfz128_2
            try clear hfz137_0
            try clear hfz137_1
            try clear hfz137_2
            try clear hfz13_0
            try clear hfz13_1
            try clear hfz13_2
            try clear hfz141_0
            try clear hfz141_1
            try clear hfz141_2
            try clear hfz147_0
            try clear hfz147_1
            try clear hfz147_2
            try clear hfz151_0
            try clear hfz151_1
            try clear hfz151_2
            try clear hfz15_0
            try clear hfz15_1
            try clear hfz15_2
            try clear hfz24_0
            try clear hfz24_1
            try clear hfz24_2
            try clear hfz27_0
            try clear hfz27_1
            try clear hfz27_2
            try clear hfz33_0
            try clear hfz33_1
            try clear hfz33_2
            try clear hfz42_0
            try clear hfz42_1
            try clear hfz42_2
            try clear hfz50_0
            try clear hfz50_1
            try clear hfz50_2
            try clear hfz53_0
            try clear hfz53_1
            try clear hfz53_2
            try clear hfz58_0
            try clear hfz58_1
            try clear hfz58_2
            try clear hfz5_0
            try clear hfz5_1
            try clear hfz5_2
            try clear hfz61_0
            try clear hfz61_1
            try clear hfz61_2
            try clear hfz78_0
            try clear hfz78_1
            try clear hfz78_2
            try clear hfz86_0
            try clear hfz86_1
            try clear hfz86_2
            try clear hfz89_0
            try clear hfz89_1
            try clear hfz89_2
            try clear hfz94_0
            try clear hfz94_1
            try clear hfz94_2
            try clear hfz97_0
            try clear hfz97_1
            try clear hfz97_2
            try clear p2
            obtain ⟨kq, x87_105, rfl, HA, HJ105, HO_820000, HO_820001, HO_820002, HO_830000, HO_830001, HO_830002, HO_841000, HO_841001, HO_841002, HO_882000, HO_882001, HO_882002, BK798, BK819, BK829, BK840, BK881, HB⟩ := hcut
            have hl841000_105 := (Kd.R_reads' HO_841000.out).1
            rw [hl841000_105] at HO_841000
            (try simp only [hl841000_105])
            (try simp only [hl841000_105] at BK798)
            (try simp only [hl841000_105] at BK819)
            (try simp only [hl841000_105] at BK829)
            (try simp only [hl841000_105] at BK840)
            (try simp only [hl841000_105] at BK881)
            (try simp only [hl841000_105] at HO_820000)
            (try simp only [hl841000_105] at HO_820001)
            (try simp only [hl841000_105] at HO_820002)
            (try simp only [hl841000_105] at HO_830000)
            (try simp only [hl841000_105] at HO_830001)
            (try simp only [hl841000_105] at HO_830002)
            (try simp only [hl841000_105] at HO_841001)
            (try simp only [hl841000_105] at HO_841002)
            (try simp only [hl841000_105] at HO_882000)
            (try simp only [hl841000_105] at HO_882001)
            (try simp only [hl841000_105] at HO_882002)
            have hl841001_105 := (Kd.R_reads' HO_841001.out).1
            rw [hl841001_105] at HO_841001
            (try simp only [hl841001_105])
            (try simp only [hl841001_105] at BK798)
            (try simp only [hl841001_105] at BK819)
            (try simp only [hl841001_105] at BK829)
            (try simp only [hl841001_105] at BK840)
            (try simp only [hl841001_105] at BK881)
            (try simp only [hl841001_105] at HO_820000)
            (try simp only [hl841001_105] at HO_820001)
            (try simp only [hl841001_105] at HO_820002)
            (try simp only [hl841001_105] at HO_830000)
            (try simp only [hl841001_105] at HO_830001)
            (try simp only [hl841001_105] at HO_830002)
            (try simp only [hl841001_105] at HO_841000)
            (try simp only [hl841001_105] at HO_841002)
            (try simp only [hl841001_105] at HO_882000)
            (try simp only [hl841001_105] at HO_882001)
            (try simp only [hl841001_105] at HO_882002)
            have hl841002_105 := (Kd.R_reads' HO_841002.out).1
            rw [hl841002_105] at HO_841002
            (try simp only [hl841002_105])
            (try simp only [hl841002_105] at BK798)
            (try simp only [hl841002_105] at BK819)
            (try simp only [hl841002_105] at BK829)
            (try simp only [hl841002_105] at BK840)
            (try simp only [hl841002_105] at BK881)
            (try simp only [hl841002_105] at HO_820000)
            (try simp only [hl841002_105] at HO_820001)
            (try simp only [hl841002_105] at HO_820002)
            (try simp only [hl841002_105] at HO_830000)
            (try simp only [hl841002_105] at HO_830001)
            (try simp only [hl841002_105] at HO_830002)
            (try simp only [hl841002_105] at HO_841000)
            (try simp only [hl841002_105] at HO_841001)
            (try simp only [hl841002_105] at HO_882000)
            (try simp only [hl841002_105] at HO_882001)
            (try simp only [hl841002_105] at HO_882002)
            cases kq with
            | zero => exact absurd HA.out (by simp [laws_FnExactUndoEdit.j2])
            | succ kj105 =>
             have H := HA.out
             clear HA
             simp only [laws_FnExactUndoEdit.j2] at H
             by_cases c153 : x87_105 = true
             ·subst c153
              have H1 : (none) = some r := by rw [if_pos rfl] at H; exact H
              clear H
              have H := H1
              clear H1
              exact absurd H (by simp)
             ·replace c153 := Bool.eq_false_iff.mpr c153
              subst c153
              have H1 : ((laws_heldDesk.f kj105 t858 t859 t860 1).bind fun t883 => (if t883 < 0 then (none) else (if t883 = t857 then (some true) else (none)))) = some r := by rw [if_neg (show ¬ (false = true) by decide)] at H; exact H
              clear H
              have H := H1
              clear H1
              replace H := Option.bind_eq_some_iff.mp H
              obtain ⟨t883, A1540, H⟩ := H
              try dsimp only at H
              have A154 := Aside0.mk A1540
              clear A1540
              by_cases c155 : t883 < 0
              ·rw [if_pos c155] at H
               exact absurd H (by simp)
              ·rw [if_neg c155] at H
               have c155b0 : decide (t883 < 0) = false := decide_eq_false c155
               clear c155
               by_cases c156 : t883 = t857
               ·rw [if_pos c156] at H
                have c156b0 : (t883 == t857) = true := beq_iff_eq.mpr c156
                have c156b1 : (t883 != t857) = false := bne_eq_false_iff_eq.mpr c156
                clear c156
                obtain rfl := Option.some.inj H
                have hnb157 := NB840_798.out
                have hnc157 := NB798_840.out
                have hnb158 := NB840_819.out
                have hnc158 := NB819_840.out
                have hnb159 := NB840_829.out
                have hnc159 := NB829_840.out
                have hnb160 := NB840_881.out
                have hnc160 := NB881_840.out
                have hcz161_0 : wc.cell? ⟨gb840, 0, none⟩ = some (.slice Ao38 t858.length co38) := (blk_cell BK840.out 0).trans rfl
                have hcz161_1 : wc.cell? ⟨gb840, 1, none⟩ = some (.slice Ao43 t859.length co43) := (blk_cell BK840.out 1).trans rfl
                have hcz161_2 : wc.cell? ⟨gb840, 2, none⟩ = some (.slice Ao44 t860.length co44) := (blk_cell BK840.out 2).trans rfl
                have hfz161_0 := blk_frozen BK840.out 0
                have hfz161_1 := blk_frozen BK840.out 1
                have hfz161_2 := blk_frozen BK840.out 2
                go_wp2_with (first | ((with_reducible refine gate_callee (f := 27) rfl ?_); refine goesL_ (some 90) rfl rfl Try.func27 (by kernel_rfl) rfl #[.agg #[.slice Ao38 t858.length co38, .slice Ao43 t859.length co43, .slice Ao44 t860.length co44], .int .i64 1] rfl args_ ?_; (with_reducible refine (laws_heldDesk.calls kj105 _ _ t858 _ _ t859 _ _ t860 1 t883 _ ?side1 ?side2 ?side3 ?side4 ?side5 ?side6 A154.out).mono ?_); (case side1 => repeat (first | exact (Kd.R_reads' HO_841000.out).2.2 | (with_reducible first | apply cA_ | apply cN_ | apply cD_))); (case side2 => exact (Kd.R_reads' HO_841000.out).2.1); (case side3 => repeat (first | exact (Kd.R_reads' HO_841001.out).2.2 | (with_reducible first | apply cA_ | apply cN_ | apply cD_))); (case side4 => exact (Kd.R_reads' HO_841001.out).2.1); (case side5 => repeat (first | exact (Kd.R_reads' HO_841002.out).2.2 | (with_reducible first | apply cA_ | apply cN_ | apply cD_))); (case side6 => exact (Kd.R_reads' HO_841002.out).2.1); rintro e w162 ⟨rfl, hb⟩; refine ⟨_, rfl, ?_⟩; have n0_ := Aside0.mk (Kd.R_below (ra_ HO_820000) hb); have n1_ := Aside0.mk (Kd.R_below (ra_ HO_820001) hb); have n2_ := Aside0.mk (Kd.R_below (ra_ HO_820002) hb); have n3_ := Aside0.mk (Kd.R_below (ra_ HO_830000) hb); have n4_ := Aside0.mk (Kd.R_below (ra_ HO_830001) hb); have n5_ := Aside0.mk (Kd.R_below (ra_ HO_830002) hb); have n6_ := Aside0.mk (Kd.R_below (ra_ HO_841000) hb); have n7_ := Aside0.mk (Kd.R_below (ra_ HO_841001) hb); have n8_ := Aside0.mk (Kd.R_below (ra_ HO_841002) hb); have n9_ := Aside0.mk (Kd.R_below (ra_ HO_882000) hb); have n10_ := Aside0.mk (Kd.R_below (ra_ HO_882001) hb); have n11_ := Aside0.mk (Kd.R_below (ra_ HO_882002) hb); have n12_ := Aside0.mk (lb_ BK798 hb); have n13_ := Aside0.mk (lb_ BK819 hb); have n14_ := Aside0.mk (lb_ BK829 hb); have n15_ := Aside0.mk (lb_ BK840 hb); have n16_ := Aside0.mk (lb_ BK881 hb); have n17_ := Aside0.mk (below_step (by repeat (first | (with_reducible first | exact HB.out | apply bA_ | apply bN_ | apply bD_ | refine bS_ ?_ GE798.out | refine bS_ ?_ GE819.out | refine bS_ ?_ GE829.out | refine bS_ ?_ GE840.out | refine bS_ ?_ GE881.out) | exact HB.out)) hb); clear HO_820000; clear HO_820001; clear HO_820002; clear HO_830000; clear HO_830001; clear HO_830002; clear HO_841000; clear HO_841001; clear HO_841002; clear HO_882000; clear HO_882001; clear HO_882002; clear BK798; clear BK819; clear BK829; clear BK840; clear BK881; clear HB; have HO_820000 := n0_; have HO_820001 := n1_; have HO_820002 := n2_; have HO_830000 := n3_; have HO_830001 := n4_; have HO_830002 := n5_; have HO_841000 := n6_; have HO_841001 := n7_; have HO_841002 := n8_; have HO_882000 := n9_; have HO_882001 := n10_; have HO_882002 := n11_; have BK798 := n12_; have BK819 := n13_; have BK829 := n14_; have BK840 := n15_; have BK881 := n16_; have HB := n17_; clear n0_ n1_ n2_ n3_ n4_ n5_ n6_ n7_ n8_ n9_ n10_ n11_ n12_ n13_ n14_ n15_ n16_ n17_; (try clear hb); (try clear hb2); (try clear hk); (try clear hi)))
                go_ret
                exact ⟨by first | rfl | (simp [errW_none, errW_some] <;> rfl) | (simp [*, errW_none, errW_some] <;> rfl), by repeat (first | (with_reducible first | exact HB.out | apply bA_ | apply bN_ | apply bD_ | refine bS_ ?_ GE798.out | refine bS_ ?_ GE819.out | refine bS_ ?_ GE829.out | refine bS_ ?_ GE840.out | refine bS_ ?_ GE881.out) | exact HB.out)⟩
               ·rw [if_neg c156] at H
                exact absurd H (by simp)
          ·rw [if_neg c103] at H
           exact absurd H (by simp)
     ·replace c66 := Bool.eq_false_iff.mpr c66
      subst c66
      have H1 : (none) = some r := by rw [if_neg (show ¬ (false = true) by decide)] at H; exact H
      clear H
      have H := H1
      clear H1
      exact absurd H (by simp)

end Go.Proofs.Ytmmpnigbfiebbaa.PA
