-- Written by a program of this session (wip/tools/myprint.py). Not trusted: Lean checks it.
import Derived.Test.YtmmpnigbfiebbaaPAx0
import Derived.Test.YtmmpnigbfiebbaaPAx3
import Derived.Test.YtmmpnigbfiebbaaPAx5
import Derived.Test.YtmmpnigbfiebbaaPAx6
namespace Go.Proofs.Ytmmpnigbfiebbaa.PA
open Go.RowKit Go.Proofs.YtmmpnigbfiebbaaW.PrintWords Go.Proofs.YtmmpnigbfiebbaaW.PrintLast Go.Proofs.YtmmpnigbfiebbaaW.PrintMore
attribute [local go_sem] max2_int min2_int max_two min_two max_three min_three max_four min_four   -- for this text's walks alone
set_option linter.unusedVariables false
set_option linter.unusedSimpArgs false

/-! ### spec_IsDesk: function 29 -/
def spec_IsDesk.f (k : Nat) (l0_0 : List ByteArray) (l0_1 : List (S25)) (l0_2 : List (S25)) : Option (Bool) := (spec_unGood.f k l0_0 l0_1 l0_2).bind fun t349 => (some t349)
theorem spec_IsDesk.mono : ∀ a0 a1 a2 k, LeO (spec_IsDesk.f k a0 a1 a2) (spec_IsDesk.f (k + 1) a0 a1 a2) := by
 intro a0 a1 a2 k
 unfold spec_IsDesk.f
 repeat' first
   | (with_reducible exact spec_unGood.mono _ _ _ _)
   | (with_reducible exact LeO.refl _)
   | (with_reducible exact LeO.none _)
   | (with_reducible refine LeO.ite ?_ ?_)
   | (with_reducible refine LeO.bind ?_ (fun _ => ?_))
   | exact spec_unGood.mono _ _ _ _
   | exact LeO.none _
   | refine LeO.ite ?_ ?_
   | refine LeO.bind ?_ (fun _ => ?_)
set_option maxHeartbeats 8000000 in
set_option maxRecDepth 100000 in
theorem spec_IsDesk.calls (k : Nat) (A0_0 : Option Addr) (c0_0 : Nat) (l0_0 : List ByteArray) (A0_1 : Option Addr) (c0_1 : Nat) (l0_1 : List (S25)) (A0_2 : Option Addr) (c0_2 : Nat) (l0_2 : List (S25)) (r : Bool) (w : World) (hr0_0 : Kd.C Kd.string w A0_0 l0_0.length l0_0) (hc0_0 : l0_0.length ≤ c0_0) (hr0_1 : Kd.C k25 w A0_1 l0_1.length l0_1) (hc0_1 : l0_1.length ≤ c0_1) (hr0_2 : Kd.C k25 w A0_2 l0_2.length l0_2) (hc0_2 : l0_2.length ≤ c0_2) (h : spec_IsDesk.f k l0_0 l0_1 l0_2 = some r) :
  Calls Try.prog 29 #[.agg #[.slice A0_0 l0_0.length c0_0, .slice A0_1 l0_1.length c0_1, .slice A0_2 l0_2.length c0_2]] w fun e w' => e = .returned (.bool r) ∧ Below w.heap.size w w' := by
 have hu35 := Try.underlying35
 have HR0_0 := Aside0.mk hr0_0
 have HC0_0 := Aside0.mk hc0_0
 clear hr0_0 hc0_0
 have HR0_1 := Aside0.mk hr0_1
 have HC0_1 := Aside0.mk hc0_1
 clear hr0_1 hc0_1
 have HR0_2 := Aside0.mk hr0_2
 have HC0_2 := Aside0.mk hc0_2
 clear hr0_2 hc0_2
 have HB := Aside0.mk (Below.refl w.heap.size w)
 have H : ((spec_unGood.f k l0_0 l0_1 l0_2).bind fun t349 => (some t349)) = some r := h
 clear h
 replace H := Option.bind_eq_some_iff.mp H
 obtain ⟨t349, A20, H⟩ := H
 replace H : (some t349) = some r := H
 have A2 := Aside0.mk A20
 clear A20
 obtain rfl := Option.some.inj H
 go_enter Try.func29, Try.ntmps29
 go_wp2_with (first | ((with_reducible refine gate_dst (N := 1) rfl ?_); refine box_event ?hg (N := 1) ?hd (cs := #[.slice A0_0 l0_0.length c0_0, .slice A0_1 l0_1.length c0_1, .slice A0_2 l0_2.length c0_2]) (t := 35) ?hr ?_; (case hd => rfl); (case hg => rfl); (case hr => first | (go_simp; done) | (go_simp; rfl)); intro gb348 hg w3 hbox hb; have n0_ := Aside0.mk (below_step (by repeat (first | (with_reducible first | exact HB.out | apply bA_ | apply bN_ | apply bD_) | exact HB.out)) hb); have n1_ := Aside0.mk (hbox); have n2_ := Aside0.mk ((by rw [hg]; exact (below_size (by repeat (first | (with_reducible first | exact HB.out | apply bA_ | apply bN_ | apply bD_) | exact HB.out))) : w.heap.size ≤ gb348)); have n3_ := Aside0.mk ((by rw [hg]; exact (below_size (by repeat (first | (with_reducible first | exact HB.out | apply bA_ | apply bN_ | apply bD_) | exact HB.out))) : w.heap.size ≤ gb348)); clear HB; have HB := n0_; have BK348 := n1_; have GW348 := n2_; have GE348 := n3_; clear n0_ n1_ n2_ n3_; clear hb hbox hg; have hcz4_0 : w3.cell? ⟨gb348, 0, none⟩ = some (.slice A0_0 l0_0.length c0_0) := (blk_cell BK348.out 0).trans rfl; have hcz4_1 : w3.cell? ⟨gb348, 1, none⟩ = some (.slice A0_1 l0_1.length c0_1) := (blk_cell BK348.out 1).trans rfl; have hcz4_2 : w3.cell? ⟨gb348, 2, none⟩ = some (.slice A0_2 l0_2.length c0_2) := (blk_cell BK348.out 2).trans rfl; have hfz4_0 := blk_frozen BK348.out 0; have hfz4_1 := blk_frozen BK348.out 1; have hfz4_2 := blk_frozen BK348.out 2) | ((with_reducible refine gate_callee (f := 59) rfl ?_); refine goesL_ (some 4) rfl rfl Try.func59 (by kernel_rfl) rfl #[.agg #[.slice A0_0 l0_0.length c0_0, .slice A0_1 l0_1.length c0_1, .slice A0_2 l0_2.length c0_2]] rfl (by (try simp only [List.map_toArray, List.map_cons, List.map_nil]); first | done | rfl | (simp only [List.length_drop, List.length_take]; rfl)) ?_; (with_reducible refine (spec_unGood.calls k _ _ l0_0 _ _ l0_1 _ _ l0_2 t349 _ ?side1 ?side2 ?side3 ?side4 ?side5 ?side6 A2.out).mono ?_); (case side1 => repeat (first | exact (Kd.C_below HR0_0.out HB.out) | (with_reducible first | apply cA_ | apply cN_ | apply cD_))); (case side2 => exact HC0_0.out); (case side3 => repeat (first | exact (Kd.C_below HR0_1.out HB.out) | (with_reducible first | apply cA_ | apply cN_ | apply cD_))); (case side4 => exact HC0_1.out); (case side5 => repeat (first | exact (Kd.C_below HR0_2.out HB.out) | (with_reducible first | apply cA_ | apply cN_ | apply cD_))); (case side6 => exact HC0_2.out); rintro e w5 ⟨rfl, hb⟩; refine ⟨_, rfl, ?_⟩; have n0_ := Aside0.mk (blk_below (g := gb348) (o := .cells #[.slice A0_0 l0_0.length c0_0, .slice A0_1 l0_1.length c0_1, .slice A0_2 l0_2.length c0_2] 35 (0, 0)) (by (with_reducible repeat (first | apply lN_ | apply lD_ | apply lA_)); exact BK348.out) hb); have n1_ := Aside0.mk (below_step (by repeat (first | (with_reducible first | exact HB.out | apply bA_ | apply bN_ | apply bD_ | refine bS_ ?_ GE348.out) | exact HB.out)) hb); clear BK348; clear HB; have BK348 := n0_; have HB := n1_; clear n0_ n1_; (try clear hb); (try clear hb2); (try clear hk); (try clear hi)))
 go_ret
 exact ⟨by first | rfl | (simp [errW_none, errW_some] <;> rfl) | (simp [*, errW_none, errW_some] <;> rfl), by repeat (first | (with_reducible first | exact HB.out | apply bA_ | apply bN_ | apply bD_ | refine bS_ ?_ GE348.out) | exact HB.out)⟩

/-! ### laws_FnExactIsDesk: function 5 -/
def laws_FnExactIsDesk.f (k : Nat) (l0_0 : List ByteArray) (l0_1 : List (S23)) (l0_2 : List (S23)) : Option (Bool) := (laws_szDesk.f k l0_0 l0_1 l0_2 1048576).bind fun t387 => (if t387 < 0 then (some true) else ((laws_toDesk.f k l0_0 l0_1 l0_2).bind fun bt388 => ((spec_IsDesk.f k bt388.1 bt388.2.1 bt388.2.2).bind fun t397 => ((laws_toDesk.f k l0_0 l0_1 l0_2).bind fun bt398 => ((impl_IsDesk.f k bt398.1 bt398.2.1 bt398.2.2).bind fun t408 => (if (t408 != t397) = true then (none) else ((laws_toDesk.f k l0_0 l0_1 l0_2).bind fun bt409 => ((laws_eqDesk.f k bt398.1 bt398.2.1 bt398.2.2 bt409.1 bt409.2.1 bt409.2.2).bind fun t418 => (if t418 = true then (some true) else (none))))))))))
theorem laws_FnExactIsDesk.mono : ∀ a0 a1 a2 k, LeO (laws_FnExactIsDesk.f k a0 a1 a2) (laws_FnExactIsDesk.f (k + 1) a0 a1 a2) := by
 intro a0 a1 a2 k
 unfold laws_FnExactIsDesk.f
 repeat' first
   | (with_reducible exact impl_IsDesk.mono _ _ _ _)
   | (with_reducible exact laws_eqDesk.mono _ _ _ _ _ _ _)
   | (with_reducible exact laws_szDesk.mono _ _ _ _ _)
   | (with_reducible exact laws_toDesk.mono _ _ _ _)
   | (with_reducible exact spec_IsDesk.mono _ _ _ _)
   | (with_reducible exact LeO.refl _)
   | (with_reducible exact LeO.none _)
   | (with_reducible refine LeO.ite ?_ ?_)
   | (with_reducible refine LeO.bind ?_ (fun _ => ?_))
   | exact impl_IsDesk.mono _ _ _ _
   | exact laws_eqDesk.mono _ _ _ _ _ _ _
   | exact laws_szDesk.mono _ _ _ _ _
   | exact laws_toDesk.mono _ _ _ _
   | exact spec_IsDesk.mono _ _ _ _
   | exact LeO.none _
   | refine LeO.ite ?_ ?_
   | refine LeO.bind ?_ (fun _ => ?_)
set_option maxHeartbeats 8000000 in
set_option maxRecDepth 100000 in
theorem laws_FnExactIsDesk.calls (k : Nat) (A0_0 : Option Addr) (c0_0 : Nat) (l0_0 : List ByteArray) (A0_1 : Option Addr) (c0_1 : Nat) (l0_1 : List (S23)) (A0_2 : Option Addr) (c0_2 : Nat) (l0_2 : List (S23)) (r : Bool) (w : World) (hr0_0 : Kd.C Kd.string w A0_0 l0_0.length l0_0) (hc0_0 : l0_0.length ≤ c0_0) (hr0_1 : Kd.C k23 w A0_1 l0_1.length l0_1) (hc0_1 : l0_1.length ≤ c0_1) (hr0_2 : Kd.C k23 w A0_2 l0_2.length l0_2) (hc0_2 : l0_2.length ≤ c0_2) (h : laws_FnExactIsDesk.f k l0_0 l0_1 l0_2 = some r) :
  Calls Try.prog 5 #[.agg #[.slice A0_0 l0_0.length c0_0, .slice A0_1 l0_1.length c0_1, .slice A0_2 l0_2.length c0_2]] w fun e w' => e = .returned (.bool r) ∧ Below w.heap.size w w' := by
 have hu45 := Try.underlying45
 have hu35 := Try.underlying35
 have HR0_0 := Aside0.mk hr0_0
 have HC0_0 := Aside0.mk hc0_0
 clear hr0_0 hc0_0
 have HR0_1 := Aside0.mk hr0_1
 have HC0_1 := Aside0.mk hc0_1
 clear hr0_1 hc0_1
 have HR0_2 := Aside0.mk hr0_2
 have HC0_2 := Aside0.mk hc0_2
 clear hr0_2 hc0_2
 have HB := Aside0.mk (Below.refl w.heap.size w)
 have H : ((laws_szDesk.f k l0_0 l0_1 l0_2 1048576).bind fun t387 => (if t387 < 0 then (some true) else ((laws_toDesk.f k l0_0 l0_1 l0_2).bind fun bt388 => ((spec_IsDesk.f k bt388.1 bt388.2.1 bt388.2.2).bind fun t397 => ((laws_toDesk.f k l0_0 l0_1 l0_2).bind fun bt398 => ((impl_IsDesk.f k bt398.1 bt398.2.1 bt398.2.2).bind fun t408 => (if (t408 != t397) = true then (none) else ((laws_toDesk.f k l0_0 l0_1 l0_2).bind fun bt409 => ((laws_eqDesk.f k bt398.1 bt398.2.1 bt398.2.2 bt409.1 bt409.2.1 bt409.2.2).bind fun t418 => (if t418 = true then (some true) else (none))))))))))) = some r := h
 clear h
 replace H := Option.bind_eq_some_iff.mp H
 obtain ⟨t387, A20, H⟩ := H
 replace H : (if t387 < 0 then (some true) else ((laws_toDesk.f k l0_0 l0_1 l0_2).bind fun bt388 => ((spec_IsDesk.f k bt388.1 bt388.2.1 bt388.2.2).bind fun t397 => ((laws_toDesk.f k l0_0 l0_1 l0_2).bind fun bt398 => ((impl_IsDesk.f k bt398.1 bt398.2.1 bt398.2.2).bind fun t408 => (if (t408 != t397) = true then (none) else ((laws_toDesk.f k l0_0 l0_1 l0_2).bind fun bt409 => ((laws_eqDesk.f k bt398.1 bt398.2.1 bt398.2.2 bt409.1 bt409.2.1 bt409.2.2).bind fun t418 => (if t418 = true then (some true) else (none)))))))))) = some r := H
 have A2 := Aside0.mk A20
 clear A20
 by_cases c3 : t387 < 0
 ·rw [if_pos c3] at H
  have c3b0 : decide (t387 < 0) = true := decide_eq_true c3
  clear c3
  obtain rfl := Option.some.inj H
  go_enter Try.func5, Try.ntmps5
  go_wp2_with (first | ((with_reducible refine gate_dst (N := 1) rfl ?_); refine box_event ?hg (N := 1) ?hd (cs := #[.slice A0_0 l0_0.length c0_0, .slice A0_1 l0_1.length c0_1, .slice A0_2 l0_2.length c0_2]) (t := 45) ?hr ?_; (case hd => rfl); (case hg => rfl); (case hr => first | (go_simp; done) | (go_simp; rfl)); intro gb386 hg w4 hbox hb; have n0_ := Aside0.mk (below_step (by repeat (first | (with_reducible first | exact HB.out | apply bA_ | apply bN_ | apply bD_) | exact HB.out)) hb); have n1_ := Aside0.mk (hbox); have n2_ := Aside0.mk ((by rw [hg]; exact (below_size (by repeat (first | (with_reducible first | exact HB.out | apply bA_ | apply bN_ | apply bD_) | exact HB.out))) : w.heap.size ≤ gb386)); have n3_ := Aside0.mk ((by rw [hg]; exact (below_size (by repeat (first | (with_reducible first | exact HB.out | apply bA_ | apply bN_ | apply bD_) | exact HB.out))) : w.heap.size ≤ gb386)); clear HB; have HB := n0_; have BK386 := n1_; have GW386 := n2_; have GE386 := n3_; clear n0_ n1_ n2_ n3_; clear hb hbox hg; have hcz5_0 : w4.cell? ⟨gb386, 0, none⟩ = some (.slice A0_0 l0_0.length c0_0) := (blk_cell BK386.out 0).trans rfl; have hcz5_1 : w4.cell? ⟨gb386, 1, none⟩ = some (.slice A0_1 l0_1.length c0_1) := (blk_cell BK386.out 1).trans rfl; have hcz5_2 : w4.cell? ⟨gb386, 2, none⟩ = some (.slice A0_2 l0_2.length c0_2) := (blk_cell BK386.out 2).trans rfl; have hfz5_0 := blk_frozen BK386.out 0; have hfz5_1 := blk_frozen BK386.out 1; have hfz5_2 := blk_frozen BK386.out 2) | ((with_reducible refine gate_callee (f := 28) rfl ?_); refine goesL_ (some 9) rfl rfl Try.func28 (by kernel_rfl) rfl #[.agg #[.slice A0_0 l0_0.length c0_0, .slice A0_1 l0_1.length c0_1, .slice A0_2 l0_2.length c0_2], .int .i64 1048576] rfl (by (try simp only [List.map_toArray, List.map_cons, List.map_nil]); first | done | rfl | (simp only [List.length_drop, List.length_take]; rfl)) ?_; (with_reducible refine (laws_szDesk.calls k _ _ l0_0 _ _ l0_1 _ _ l0_2 1048576 t387 _ ?side1 ?side2 ?side3 ?side4 ?side5 ?side6 A2.out).mono ?_); (case side1 => repeat (first | exact (Kd.C_below HR0_0.out HB.out) | (with_reducible first | apply cA_ | apply cN_ | apply cD_))); (case side2 => exact HC0_0.out); (case side3 => repeat (first | exact (Kd.C_below HR0_1.out HB.out) | (with_reducible first | apply cA_ | apply cN_ | apply cD_))); (case side4 => exact HC0_1.out); (case side5 => repeat (first | exact (Kd.C_below HR0_2.out HB.out) | (with_reducible first | apply cA_ | apply cN_ | apply cD_))); (case side6 => exact HC0_2.out); rintro e w6 ⟨rfl, hb⟩; refine ⟨_, rfl, ?_⟩; have n0_ := Aside0.mk (blk_below (g := gb386) (o := .cells #[.slice A0_0 l0_0.length c0_0, .slice A0_1 l0_1.length c0_1, .slice A0_2 l0_2.length c0_2] 45 (0, 0)) (by (with_reducible repeat (first | apply lN_ | apply lD_ | apply lA_)); exact BK386.out) hb); have n1_ := Aside0.mk (below_step (by repeat (first | (with_reducible first | exact HB.out | apply bA_ | apply bN_ | apply bD_ | refine bS_ ?_ GE386.out) | exact HB.out)) hb); clear BK386; clear HB; have BK386 := n0_; have HB := n1_; clear n0_ n1_; (try clear hb); (try clear hb2); (try clear hk); (try clear hi)))
  go_ret
  exact ⟨by first | rfl | (simp [errW_none, errW_some] <;> rfl) | (simp [*, errW_none, errW_some] <;> rfl), by repeat (first | (with_reducible first | exact HB.out | apply bA_ | apply bN_ | apply bD_ | refine bS_ ?_ GE386.out) | exact HB.out)⟩
 ·rw [if_neg c3] at H
  have c3b0 : decide (t387 < 0) = false := decide_eq_false c3
  clear c3
  replace H := Option.bind_eq_some_iff.mp H
  obtain ⟨⟨t388, t391, t394⟩, A70, H⟩ := H
  replace H : ((spec_IsDesk.f k t388 t391 t394).bind fun t397 => ((laws_toDesk.f k l0_0 l0_1 l0_2).bind fun bt398 => ((impl_IsDesk.f k bt398.1 bt398.2.1 bt398.2.2).bind fun t408 => (if (t408 != t397) = true then (none) else ((laws_toDesk.f k l0_0 l0_1 l0_2).bind fun bt409 => ((laws_eqDesk.f k bt398.1 bt398.2.1 bt398.2.2 bt409.1 bt409.2.1 bt409.2.2).bind fun t418 => (if t418 = true then (some true) else (none)))))))) = some r := H
  have A7 := Aside0.mk A70
  clear A70
  replace H := Option.bind_eq_some_iff.mp H
  obtain ⟨t397, A80, H⟩ := H
  replace H : ((laws_toDesk.f k l0_0 l0_1 l0_2).bind fun bt398 => ((impl_IsDesk.f k bt398.1 bt398.2.1 bt398.2.2).bind fun t408 => (if (t408 != t397) = true then (none) else ((laws_toDesk.f k l0_0 l0_1 l0_2).bind fun bt409 => ((laws_eqDesk.f k bt398.1 bt398.2.1 bt398.2.2 bt409.1 bt409.2.1 bt409.2.2).bind fun t418 => (if t418 = true then (some true) else (none))))))) = some r := H
  have A8 := Aside0.mk A80
  clear A80
  replace H := Option.bind_eq_some_iff.mp H
  obtain ⟨⟨t398, t401, t404⟩, A90, H⟩ := H
  replace H : ((impl_IsDesk.f k t398 t401 t404).bind fun t408 => (if (t408 != t397) = true then (none) else ((laws_toDesk.f k l0_0 l0_1 l0_2).bind fun bt409 => ((laws_eqDesk.f k t398 t401 t404 bt409.1 bt409.2.1 bt409.2.2).bind fun t418 => (if t418 = true then (some true) else (none)))))) = some r := H
  have A9 := Aside0.mk A90
  clear A90
  replace H := Option.bind_eq_some_iff.mp H
  obtain ⟨t408, A100, H⟩ := H
  replace H : (if (t408 != t397) = true then (none) else ((laws_toDesk.f k l0_0 l0_1 l0_2).bind fun bt409 => ((laws_eqDesk.f k t398 t401 t404 bt409.1 bt409.2.1 bt409.2.2).bind fun t418 => (if t418 = true then (some true) else (none))))) = some r := H
  have A10 := Aside0.mk A100
  clear A100
  by_cases c11 : (t408 != t397) = true
  ·rw [if_pos c11] at H
   exact absurd H (by simp)
  ·rw [if_neg c11] at H
   have c11b0 : (t408 != t397) = false := by simpa using c11
   (try (have c11b1 : decide (t408 = t397) = true := by simpa using c11))
   (try (have c11b2 : (t408 == t397) = true := by simpa using c11))
   clear c11
   replace H := Option.bind_eq_some_iff.mp H
   obtain ⟨⟨t409, t412, t415⟩, A120, H⟩ := H
   replace H : ((laws_eqDesk.f k t398 t401 t404 t409 t412 t415).bind fun t418 => (if t418 = true then (some true) else (none))) = some r := H
   have A12 := Aside0.mk A120
   clear A120
   replace H := Option.bind_eq_some_iff.mp H
   obtain ⟨t418, A130, H⟩ := H
   replace H : (if t418 = true then (some true) else (none)) = some r := H
   have A13 := Aside0.mk A130
   clear A130
   by_cases c14 : t418 = true
   ·subst c14
    have H1 : (some true) = some r := by rw [if_pos rfl] at H; exact H
    clear H
    have H := H1
    clear H1
    obtain rfl := Option.some.inj H
    go_enter Try.func5, Try.ntmps5
    try go_wp2_with (first | ((with_reducible refine gate_dst (N := 1) rfl ?_); refine box_event ?hg (N := 1) ?hd (cs := #[.slice A0_0 l0_0.length c0_0, .slice A0_1 l0_1.length c0_1, .slice A0_2 l0_2.length c0_2]) (t := 45) ?hr ?_; (case hd => rfl); (case hg => rfl); (case hr => first | (go_simp; done) | (go_simp; rfl)); intro gb386 hg w15 hbox hb; have n0_ := Aside0.mk (below_step (by repeat (first | (with_reducible first | exact HB.out | apply bA_ | apply bN_ | apply bD_) | exact HB.out)) hb); have n1_ := Aside0.mk (hbox); have n2_ := Aside0.mk ((by rw [hg]; exact (below_size (by repeat (first | (with_reducible first | exact HB.out | apply bA_ | apply bN_ | apply bD_) | exact HB.out))) : w.heap.size ≤ gb386)); have n3_ := Aside0.mk ((by rw [hg]; exact (below_size (by repeat (first | (with_reducible first | exact HB.out | apply bA_ | apply bN_ | apply bD_) | exact HB.out))) : w.heap.size ≤ gb386)); clear HB; have HB := n0_; have BK386 := n1_; have GW386 := n2_; have GE386 := n3_; clear n0_ n1_ n2_ n3_; clear hb hbox hg; have hcz16_0 : w15.cell? ⟨gb386, 0, none⟩ = some (.slice A0_0 l0_0.length c0_0) := (blk_cell BK386.out 0).trans rfl; have hcz16_1 : w15.cell? ⟨gb386, 1, none⟩ = some (.slice A0_1 l0_1.length c0_1) := (blk_cell BK386.out 1).trans rfl; have hcz16_2 : w15.cell? ⟨gb386, 2, none⟩ = some (.slice A0_2 l0_2.length c0_2) := (blk_cell BK386.out 2).trans rfl; have hfz16_0 := blk_frozen BK386.out 0; have hfz16_1 := blk_frozen BK386.out 1; have hfz16_2 := blk_frozen BK386.out 2) | ((with_reducible refine gate_callee (f := 28) rfl ?_); refine goesL_ (some 9) rfl rfl Try.func28 (by kernel_rfl) rfl #[.agg #[.slice A0_0 l0_0.length c0_0, .slice A0_1 l0_1.length c0_1, .slice A0_2 l0_2.length c0_2], .int .i64 1048576] rfl (by (try simp only [List.map_toArray, List.map_cons, List.map_nil]); first | done | rfl | (simp only [List.length_drop, List.length_take]; rfl)) ?_; (with_reducible refine (laws_szDesk.calls k _ _ l0_0 _ _ l0_1 _ _ l0_2 1048576 t387 _ ?side1 ?side2 ?side3 ?side4 ?side5 ?side6 A2.out).mono ?_); (case side1 => repeat (first | exact (Kd.C_below HR0_0.out HB.out) | (with_reducible first | apply cA_ | apply cN_ | apply cD_))); (case side2 => exact HC0_0.out); (case side3 => repeat (first | exact (Kd.C_below HR0_1.out HB.out) | (with_reducible first | apply cA_ | apply cN_ | apply cD_))); (case side4 => exact HC0_1.out); (case side5 => repeat (first | exact (Kd.C_below HR0_2.out HB.out) | (with_reducible first | apply cA_ | apply cN_ | apply cD_))); (case side6 => exact HC0_2.out); rintro e w17 ⟨rfl, hb⟩; refine ⟨_, rfl, ?_⟩; have n0_ := Aside0.mk (blk_below (g := gb386) (o := .cells #[.slice A0_0 l0_0.length c0_0, .slice A0_1 l0_1.length c0_1, .slice A0_2 l0_2.length c0_2] 45 (0, 0)) (by (with_reducible repeat (first | apply lN_ | apply lD_ | apply lA_)); exact BK386.out) hb); have n1_ := Aside0.mk (below_step (by repeat (first | (with_reducible first | exact HB.out | apply bA_ | apply bN_ | apply bD_ | refine bS_ ?_ GE386.out) | exact HB.out)) hb); clear BK386; clear HB; have BK386 := n0_; have HB := n1_; clear n0_ n1_; (try clear hb); (try clear hb2); (try clear hk); (try clear hi); have hcz18_0 : w17.cell? ⟨gb386, 0, none⟩ = some (.slice A0_0 l0_0.length c0_0) := (blk_cell BK386.out 0).trans rfl; have hcz18_1 : w17.cell? ⟨gb386, 1, none⟩ = some (.slice A0_1 l0_1.length c0_1) := (blk_cell BK386.out 1).trans rfl; have hcz18_2 : w17.cell? ⟨gb386, 2, none⟩ = some (.slice A0_2 l0_2.length c0_2) := (blk_cell BK386.out 2).trans rfl; have hfz18_0 := blk_frozen BK386.out 0; have hfz18_1 := blk_frozen BK386.out 1; have hfz18_2 := blk_frozen BK386.out 2) | ((with_reducible refine gate_callee (f := 30) rfl ?_); refine goesL_ (some 13) rfl rfl Try.func30 (by kernel_rfl) rfl #[.agg #[.slice A0_0 l0_0.length c0_0, .slice A0_1 l0_1.length c0_1, .slice A0_2 l0_2.length c0_2]] rfl (by (try simp only [List.map_toArray, List.map_cons, List.map_nil]); first | done | rfl | (simp only [List.length_drop, List.length_take]; rfl)) ?_; (with_reducible refine (laws_toDesk.calls k _ _ l0_0 _ _ l0_1 _ _ l0_2 t388 t391 t394 _ ?side1 ?side2 ?side3 ?side4 ?side5 ?side6 A7.out).mono ?_); (case side1 => repeat (first | exact (Kd.C_below HR0_0.out HB.out) | (with_reducible first | apply cA_ | apply cN_ | apply cD_))); (case side2 => exact HC0_0.out); (case side3 => repeat (first | exact (Kd.C_below HR0_1.out HB.out) | (with_reducible first | apply cA_ | apply cN_ | apply cD_))); (case side4 => exact HC0_1.out); (case side5 => repeat (first | exact (Kd.C_below HR0_2.out HB.out) | (with_reducible first | apply cA_ | apply cN_ | apply cD_))); (case side6 => exact HC0_2.out); rintro e w19 ⟨v389, v392, v395, rfl, ho0, ho1, ho2, hb⟩; refine ⟨_, rfl, ?_⟩; have n0_ := Aside0.mk (Kd.R_lower ho0 (below_size (by repeat (first | (with_reducible first | exact HB.out | apply bA_ | apply bN_ | apply bD_ | refine bS_ ?_ GE386.out) | exact HB.out)))); have n1_ := Aside0.mk (Kd.R_lower ho1 (below_size (by repeat (first | (with_reducible first | exact HB.out | apply bA_ | apply bN_ | apply bD_ | refine bS_ ?_ GE386.out) | exact HB.out)))); have n2_ := Aside0.mk (Kd.R_lower ho2 (below_size (by repeat (first | (with_reducible first | exact HB.out | apply bA_ | apply bN_ | apply bD_ | refine bS_ ?_ GE386.out) | exact HB.out)))); have n3_ := Aside0.mk (blk_below (g := gb386) (o := .cells #[.slice A0_0 l0_0.length c0_0, .slice A0_1 l0_1.length c0_1, .slice A0_2 l0_2.length c0_2] 45 (0, 0)) (by (with_reducible repeat (first | apply lN_ | apply lD_ | apply lA_)); exact BK386.out) hb); have n4_ := Aside0.mk (below_step (by repeat (first | (with_reducible first | exact HB.out | apply bA_ | apply bN_ | apply bD_ | refine bS_ ?_ GE386.out) | exact HB.out)) hb); clear BK386; clear HB; have HO390 := n0_; have HO393 := n1_; have HO396 := n2_; have BK386 := n3_; have HB := n4_; clear n0_ n1_ n2_ n3_ n4_; (try clear hb); (try clear hb2); (try clear hk); (try clear hi); (try clear ho0); (try clear ho1); (try clear ho2); obtain ⟨Ao20, co20, eo20⟩ := Kd.R_slice HO390.out; subst eo20; obtain ⟨Ao21, co21, eo21⟩ := Kd.R_slice HO393.out; subst eo21; obtain ⟨Ao22, co22, eo22⟩ := Kd.R_slice HO396.out; subst eo22) | ((with_reducible refine gate_callee (f := 29) rfl ?_); refine goesL_ (some 14) rfl rfl Try.func29 (by kernel_rfl) rfl #[.agg #[.slice Ao20 t388.length co20, .slice Ao21 t391.length co21, .slice Ao22 t394.length co22]] rfl (by (try simp only [List.map_toArray, List.map_cons, List.map_nil]); first | done | rfl | (simp only [List.length_drop, List.length_take]; rfl)) ?_; (with_reducible refine (spec_IsDesk.calls k _ _ t388 _ _ t391 _ _ t394 t397 _ ?side1 ?side2 ?side3 ?side4 ?side5 ?side6 A8.out).mono ?_); (case side1 => repeat (first | exact (Kd.R_reads' HO390.out).2.2 | (with_reducible first | apply cA_ | apply cN_ | apply cD_))); (case side2 => exact (Kd.R_reads' HO390.out).2.1); (case side3 => repeat (first | exact (Kd.R_reads' HO393.out).2.2 | (with_reducible first | apply cA_ | apply cN_ | apply cD_))); (case side4 => exact (Kd.R_reads' HO393.out).2.1); (case side5 => repeat (first | exact (Kd.R_reads' HO396.out).2.2 | (with_reducible first | apply cA_ | apply cN_ | apply cD_))); (case side6 => exact (Kd.R_reads' HO396.out).2.1); rintro e w23 ⟨rfl, hb⟩; refine ⟨_, rfl, ?_⟩; have n0_ := Aside0.mk (Kd.R_below (by (with_reducible repeat (first | apply rA_ | apply rN_ | apply rD_)); exact HO390.out) hb); have n1_ := Aside0.mk (Kd.R_below (by (with_reducible repeat (first | apply rA_ | apply rN_ | apply rD_)); exact HO393.out) hb); have n2_ := Aside0.mk (Kd.R_below (by (with_reducible repeat (first | apply rA_ | apply rN_ | apply rD_)); exact HO396.out) hb); have n3_ := Aside0.mk (blk_below (g := gb386) (o := .cells #[.slice A0_0 l0_0.length c0_0, .slice A0_1 l0_1.length c0_1, .slice A0_2 l0_2.length c0_2] 45 (0, 0)) (by (with_reducible repeat (first | apply lN_ | apply lD_ | apply lA_)); exact BK386.out) hb); have n4_ := Aside0.mk (below_step (by repeat (first | (with_reducible first | exact HB.out | apply bA_ | apply bN_ | apply bD_ | refine bS_ ?_ GE386.out) | exact HB.out)) hb); clear HO390; clear HO393; clear HO396; clear BK386; clear HB; have HO390 := n0_; have HO393 := n1_; have HO396 := n2_; have BK386 := n3_; have HB := n4_; clear n0_ n1_ n2_ n3_ n4_; (try clear hb); (try clear hb2); (try clear hk); (try clear hi); have hcz24_0 : w23.cell? ⟨gb386, 0, none⟩ = some (.slice A0_0 l0_0.length c0_0) := (blk_cell BK386.out 0).trans rfl; have hcz24_1 : w23.cell? ⟨gb386, 1, none⟩ = some (.slice A0_1 l0_1.length c0_1) := (blk_cell BK386.out 1).trans rfl; have hcz24_2 : w23.cell? ⟨gb386, 2, none⟩ = some (.slice A0_2 l0_2.length c0_2) := (blk_cell BK386.out 2).trans rfl; have hfz24_0 := blk_frozen BK386.out 0; have hfz24_1 := blk_frozen BK386.out 1; have hfz24_2 := blk_frozen BK386.out 2) | ((with_reducible refine gate_callee (f := 30) rfl ?_); refine goesL_ (some 16) rfl rfl Try.func30 (by kernel_rfl) rfl #[.agg #[.slice A0_0 l0_0.length c0_0, .slice A0_1 l0_1.length c0_1, .slice A0_2 l0_2.length c0_2]] rfl (by (try simp only [List.map_toArray, List.map_cons, List.map_nil]); first | done | rfl | (simp only [List.length_drop, List.length_take]; rfl)) ?_; (with_reducible refine (laws_toDesk.calls k _ _ l0_0 _ _ l0_1 _ _ l0_2 t398 t401 t404 _ ?side1 ?side2 ?side3 ?side4 ?side5 ?side6 A9.out).mono ?_); (case side1 => repeat (first | exact (Kd.C_below HR0_0.out HB.out) | (with_reducible first | apply cA_ | apply cN_ | apply cD_))); (case side2 => exact HC0_0.out); (case side3 => repeat (first | exact (Kd.C_below HR0_1.out HB.out) | (with_reducible first | apply cA_ | apply cN_ | apply cD_))); (case side4 => exact HC0_1.out); (case side5 => repeat (first | exact (Kd.C_below HR0_2.out HB.out) | (with_reducible first | apply cA_ | apply cN_ | apply cD_))); (case side6 => exact HC0_2.out); rintro e w25 ⟨v399, v402, v405, rfl, ho0, ho1, ho2, hb⟩; refine ⟨_, rfl, ?_⟩; have n0_ := Aside0.mk (Kd.R_elder' (by (with_reducible repeat (first | apply rA_ | apply rN_ | apply rD_)); exact HO390.out) (Kd.R_base ho0) hb); have n1_ := Aside0.mk (Kd.R_mono (Kd.R_told (Kd.R_told (Kd.R_old (by (with_reducible repeat (first | apply rA_ | apply rN_ | apply rD_)); exact HO393.out) hb) (Kd.R_base ho1)) (Kd.R_base ho2)) (fun _ h_ => h_.1)); have n2_ := Aside0.mk (Kd.R_mono (Kd.R_told (Kd.R_told (Kd.R_old (by (with_reducible repeat (first | apply rA_ | apply rN_ | apply rD_)); exact HO396.out) hb) (Kd.R_base ho1)) (Kd.R_base ho2)) (fun _ h_ => h_.1)); have n3_ := Aside0.mk (Kd.R_lower (Kd.R_new' ho0 (Kd.R_lt (by (with_reducible repeat (first | apply rA_ | apply rN_ | apply rD_)); exact HO390.out))) (below_size (by repeat (first | (with_reducible first | exact HB.out | apply bA_ | apply bN_ | apply bD_ | refine bS_ ?_ GE386.out) | exact HB.out)))); have n4_ := Aside0.mk (Kd.R_lower (Kd.R_new' (Kd.R_new' ho1 (Kd.R_lt (by (with_reducible repeat (first | apply rA_ | apply rN_ | apply rD_)); exact HO393.out))) (Kd.R_lt (by (with_reducible repeat (first | apply rA_ | apply rN_ | apply rD_)); exact HO396.out))) (below_size (by repeat (first | (with_reducible first | exact HB.out | apply bA_ | apply bN_ | apply bD_ | refine bS_ ?_ GE386.out) | exact HB.out)))); have n5_ := Aside0.mk (Kd.R_lower (Kd.R_new' (Kd.R_new' ho2 (Kd.R_lt (by (with_reducible repeat (first | apply rA_ | apply rN_ | apply rD_)); exact HO393.out))) (Kd.R_lt (by (with_reducible repeat (first | apply rA_ | apply rN_ | apply rD_)); exact HO396.out))) (below_size (by repeat (first | (with_reducible first | exact HB.out | apply bA_ | apply bN_ | apply bD_ | refine bS_ ?_ GE386.out) | exact HB.out)))); have n6_ := Aside0.mk (blk_below (g := gb386) (o := .cells #[.slice A0_0 l0_0.length c0_0, .slice A0_1 l0_1.length c0_1, .slice A0_2 l0_2.length c0_2] 45 (0, 0)) (by (with_reducible repeat (first | apply lN_ | apply lD_ | apply lA_)); exact BK386.out) hb); have n7_ := Aside0.mk (below_step (by repeat (first | (with_reducible first | exact HB.out | apply bA_ | apply bN_ | apply bD_ | refine bS_ ?_ GE386.out) | exact HB.out)) hb); clear HO390; clear HO393; clear HO396; clear BK386; clear HB; have HO390 := n0_; have HO393 := n1_; have HO396 := n2_; have HO400 := n3_; have HO403 := n4_; have HO406 := n5_; have BK386 := n6_; have HB := n7_; clear n0_ n1_ n2_ n3_ n4_ n5_ n6_ n7_; (try clear hb); (try clear hb2); (try clear hk); (try clear hi); (try clear ho0); (try clear ho1); (try clear ho2)) | ((with_reducible refine gate_dst (N := 5) rfl ?_); refine box_event ?hg (N := 5) ?hd (cs := #[.slice none 0 0, .slice none 0 0, .slice none 0 0]) (t := 35) ?hr ?_; (case hd => rfl); (case hg => rfl); (case hr => first | (go_simp; done) | (go_simp; rfl)); intro gb407 hg w26 hbox hb; have n0_ := Aside0.mk (Kd.R_below (by (with_reducible repeat (first | apply rA_ | apply rN_ | apply rD_)); exact HO390.out) hb); have n1_ := Aside0.mk (Kd.R_below (by (with_reducible repeat (first | apply rA_ | apply rN_ | apply rD_)); exact HO393.out) hb); have n2_ := Aside0.mk (Kd.R_below (by (with_reducible repeat (first | apply rA_ | apply rN_ | apply rD_)); exact HO396.out) hb); have n3_ := Aside0.mk (Kd.R_below (by (with_reducible repeat (first | apply rA_ | apply rN_ | apply rD_)); exact HO400.out) hb); have n4_ := Aside0.mk (Kd.R_below (by (with_reducible repeat (first | apply rA_ | apply rN_ | apply rD_)); exact HO403.out) hb); have n5_ := Aside0.mk (Kd.R_below (by (with_reducible repeat (first | apply rA_ | apply rN_ | apply rD_)); exact HO406.out) hb); have n6_ := Aside0.mk (blk_below (g := gb386) (o := .cells #[.slice A0_0 l0_0.length c0_0, .slice A0_1 l0_1.length c0_1, .slice A0_2 l0_2.length c0_2] 45 (0, 0)) (by (with_reducible repeat (first | apply lN_ | apply lD_ | apply lA_)); exact BK386.out) hb); have n7_ := Aside0.mk (below_step (by repeat (first | (with_reducible first | exact HB.out | apply bA_ | apply bN_ | apply bD_ | refine bS_ ?_ GE386.out) | exact HB.out)) hb); have n8_ := Aside0.mk (hbox); have n9_ := Aside0.mk ((by rw [hg]; exact (below_size (by repeat (first | (with_reducible first | exact HB.out | apply bA_ | apply bN_ | apply bD_ | refine bS_ ?_ GE386.out) | exact HB.out))) : w.heap.size ≤ gb407)); have n10_ := Aside0.mk ((by rw [hg]; exact (below_size (by repeat (first | (with_reducible first | exact HB.out | apply bA_ | apply bN_ | apply bD_ | refine bS_ ?_ GE386.out) | exact HB.out))) : w.heap.size ≤ gb407)); have n11_ := Aside0.mk ((by rw [hg]; exact Nat.ne_of_lt (blk_lt (g := gb386) (o := .cells #[.slice A0_0 l0_0.length c0_0, .slice A0_1 l0_1.length c0_1, .slice A0_2 l0_2.length c0_2] 45 (0, 0)) (by (with_reducible repeat (first | apply lN_ | apply lD_ | apply lA_)); exact BK386.out)) : gb386 ≠ gb407)); have n12_ := Aside0.mk ((by rw [hg]; exact Nat.ne_of_gt (blk_lt (g := gb386) (o := .cells #[.slice A0_0 l0_0.length c0_0, .slice A0_1 l0_1.length c0_1, .slice A0_2 l0_2.length c0_2] 45 (0, 0)) (by (with_reducible repeat (first | apply lN_ | apply lD_ | apply lA_)); exact BK386.out)) : gb407 ≠ gb386)); clear HO390; clear HO393; clear HO396; clear HO400; clear HO403; clear HO406; clear BK386; clear HB; have HO390 := n0_; have HO393 := n1_; have HO396 := n2_; have HO400 := n3_; have HO403 := n4_; have HO406 := n5_; have BK386 := n6_; have HB := n7_; have BK407 := n8_; have GW407 := n9_; have GE407 := n10_; have NB386_407 := n11_; have NB407_386 := n12_; clear n0_ n1_ n2_ n3_ n4_ n5_ n6_ n7_ n8_ n9_ n10_ n11_ n12_; clear hb hbox hg; obtain ⟨Ao27, co27, eo27⟩ := Kd.R_slice HO400.out; subst eo27; have hnb28 := NB407_386.out; have hnc28 := NB386_407.out; have hcz29_0 : w26.cell? ⟨gb407, 0, none⟩ = some (.slice none 0 0) := (blk_cell BK407.out 0).trans rfl; have hcz29_1 : w26.cell? ⟨gb407, 1, none⟩ = some (.slice none 0 0) := (blk_cell BK407.out 1).trans rfl; have hcz29_2 : w26.cell? ⟨gb407, 2, none⟩ = some (.slice none 0 0) := (blk_cell BK407.out 2).trans rfl; have hfz29_0 := blk_frozen BK407.out 0; have hfz29_1 := blk_frozen BK407.out 1; have hfz29_2 := blk_frozen BK407.out 2; obtain ⟨Ao30, co30, eo30⟩ := Kd.R_slice HO403.out; subst eo30; obtain ⟨Ao31, co31, eo31⟩ := Kd.R_slice HO406.out; subst eo31) | ((with_reducible refine gate_callee (f := 31) rfl ?_); refine goesL_ (some 18) rfl rfl Try.func31 (by kernel_rfl) rfl #[.agg #[.slice Ao27 t398.length co27, .slice Ao30 t401.length co30, .slice Ao31 t404.length co31]] rfl (by (try simp only [List.map_toArray, List.map_cons, List.map_nil]); first | done | rfl | (simp only [List.length_drop, List.length_take]; rfl)) ?_; (with_reducible refine (impl_IsDesk.calls k _ _ t398 _ _ t401 _ _ t404 t408 _ ?side1 ?side2 ?side3 ?side4 ?side5 ?side6 A10.out).mono ?_); (case side1 => refine (Kd.R_reads' (e := 9) (base := w.heap.size) (ok := fun k_ => (True ∧ some k_ ≠ (.slice Ao20 t388.length co20 : Value).ownBlock)) (n := t398.length) (c := co27) ?_).2.2; exact (by (with_reducible repeat (first | apply rA_ | apply rN_ | apply rD_)); exact (Kd.R_mono (Kd.R_far (p := ⟨gb407, 2, none⟩) (Kd.R_far (p := ⟨gb407, 1, none⟩) (Kd.R_far (p := ⟨gb407, 0, none⟩) (Kd.R_types HO400.out BK407.out (by decide)) (fun _ hk => hk.2) (.slice Ao27 t398.length co27)) (fun _ hk => hk.2) (.slice Ao30 t401.length co30)) (fun _ hk => hk.2) (.slice Ao31 t404.length co31)) (fun _ h_ => h_.1)))); (case side2 => exact (Kd.R_reads' HO400.out).2.1); (case side3 => refine (Kd.R_reads' (e := 25) (base := w.heap.size) (ok := fun k_ => ((some k_ ≠ (.slice Ao31 t404.length co31 : Value).ownBlock ∧ some k_ ≠ (.slice Ao21 t391.length co21 : Value).ownBlock) ∧ some k_ ≠ (.slice Ao22 t394.length co22 : Value).ownBlock)) (n := t401.length) (c := co30) ?_).2.2; exact (by (with_reducible repeat (first | apply rA_ | apply rN_ | apply rD_)); exact (Kd.R_mono (Kd.R_far (p := ⟨gb407, 2, none⟩) (Kd.R_far (p := ⟨gb407, 1, none⟩) (Kd.R_far (p := ⟨gb407, 0, none⟩) (Kd.R_types HO403.out BK407.out (by decide)) (fun _ hk => hk.2) (.slice Ao27 t398.length co27)) (fun _ hk => hk.2) (.slice Ao30 t401.length co30)) (fun _ hk => hk.2) (.slice Ao31 t404.length co31)) (fun _ h_ => h_.1)))); (case side4 => exact (Kd.R_reads' HO403.out).2.1); (case side5 => refine (Kd.R_reads' (e := 25) (base := w.heap.size) (ok := fun k_ => ((some k_ ≠ (.slice Ao30 t401.length co30 : Value).ownBlock ∧ some k_ ≠ (.slice Ao21 t391.length co21 : Value).ownBlock) ∧ some k_ ≠ (.slice Ao22 t394.length co22 : Value).ownBlock)) (n := t404.length) (c := co31) ?_).2.2; exact (by (with_reducible repeat (first | apply rA_ | apply rN_ | apply rD_)); exact (Kd.R_mono (Kd.R_far (p := ⟨gb407, 2, none⟩) (Kd.R_far (p := ⟨gb407, 1, none⟩) (Kd.R_far (p := ⟨gb407, 0, none⟩) (Kd.R_types HO406.out BK407.out (by decide)) (fun _ hk => hk.2) (.slice Ao27 t398.length co27)) (fun _ hk => hk.2) (.slice Ao30 t401.length co30)) (fun _ hk => hk.2) (.slice Ao31 t404.length co31)) (fun _ h_ => h_.1)))); (case side6 => exact (Kd.R_reads' HO406.out).2.1); rintro e w32 ⟨rfl, hb⟩; refine ⟨_, rfl, ?_⟩; have n0_ := Aside0.mk (Kd.R_below (by (with_reducible repeat (first | apply rA_ | apply rN_ | apply rD_)); exact (Kd.R_mono (Kd.R_far (p := ⟨gb407, 2, none⟩) (Kd.R_far (p := ⟨gb407, 1, none⟩) (Kd.R_far (p := ⟨gb407, 0, none⟩) (Kd.R_types HO390.out BK407.out (by decide)) (fun _ hk => hk.2) (.slice Ao27 t398.length co27)) (fun _ hk => hk.2) (.slice Ao30 t401.length co30)) (fun _ hk => hk.2) (.slice Ao31 t404.length co31)) (fun _ h_ => h_.1))) hb); have n1_ := Aside0.mk (Kd.R_below (by (with_reducible repeat (first | apply rA_ | apply rN_ | apply rD_)); exact (Kd.R_mono (Kd.R_far (p := ⟨gb407, 2, none⟩) (Kd.R_far (p := ⟨gb407, 1, none⟩) (Kd.R_far (p := ⟨gb407, 0, none⟩) (Kd.R_types HO393.out BK407.out (by decide)) (fun _ hk => hk.2) (.slice Ao27 t398.length co27)) (fun _ hk => hk.2) (.slice Ao30 t401.length co30)) (fun _ hk => hk.2) (.slice Ao31 t404.length co31)) (fun _ h_ => h_.1))) hb); have n2_ := Aside0.mk (Kd.R_below (by (with_reducible repeat (first | apply rA_ | apply rN_ | apply rD_)); exact (Kd.R_mono (Kd.R_far (p := ⟨gb407, 2, none⟩) (Kd.R_far (p := ⟨gb407, 1, none⟩) (Kd.R_far (p := ⟨gb407, 0, none⟩) (Kd.R_types HO396.out BK407.out (by decide)) (fun _ hk => hk.2) (.slice Ao27 t398.length co27)) (fun _ hk => hk.2) (.slice Ao30 t401.length co30)) (fun _ hk => hk.2) (.slice Ao31 t404.length co31)) (fun _ h_ => h_.1))) hb); have n3_ := Aside0.mk (Kd.R_below (by (with_reducible repeat (first | apply rA_ | apply rN_ | apply rD_)); exact (Kd.R_mono (Kd.R_far (p := ⟨gb407, 2, none⟩) (Kd.R_far (p := ⟨gb407, 1, none⟩) (Kd.R_far (p := ⟨gb407, 0, none⟩) (Kd.R_types HO400.out BK407.out (by decide)) (fun _ hk => hk.2) (.slice Ao27 t398.length co27)) (fun _ hk => hk.2) (.slice Ao30 t401.length co30)) (fun _ hk => hk.2) (.slice Ao31 t404.length co31)) (fun _ h_ => h_.1))) hb); have n4_ := Aside0.mk (Kd.R_below (by (with_reducible repeat (first | apply rA_ | apply rN_ | apply rD_)); exact (Kd.R_mono (Kd.R_far (p := ⟨gb407, 2, none⟩) (Kd.R_far (p := ⟨gb407, 1, none⟩) (Kd.R_far (p := ⟨gb407, 0, none⟩) (Kd.R_types HO403.out BK407.out (by decide)) (fun _ hk => hk.2) (.slice Ao27 t398.length co27)) (fun _ hk => hk.2) (.slice Ao30 t401.length co30)) (fun _ hk => hk.2) (.slice Ao31 t404.length co31)) (fun _ h_ => h_.1))) hb); have n5_ := Aside0.mk (Kd.R_below (by (with_reducible repeat (first | apply rA_ | apply rN_ | apply rD_)); exact (Kd.R_mono (Kd.R_far (p := ⟨gb407, 2, none⟩) (Kd.R_far (p := ⟨gb407, 1, none⟩) (Kd.R_far (p := ⟨gb407, 0, none⟩) (Kd.R_types HO406.out BK407.out (by decide)) (fun _ hk => hk.2) (.slice Ao27 t398.length co27)) (fun _ hk => hk.2) (.slice Ao30 t401.length co30)) (fun _ hk => hk.2) (.slice Ao31 t404.length co31)) (fun _ h_ => h_.1))) hb); have n6_ := Aside0.mk (blk_below (g := gb386) (o := .cells #[.slice A0_0 l0_0.length c0_0, .slice A0_1 l0_1.length c0_1, .slice A0_2 l0_2.length c0_2] 45 (0, 0)) (by (with_reducible repeat (first | apply lN_ | apply lD_ | apply lA_)); refine blk_far ?_ NB386_407.out _; (with_reducible repeat (first | apply lN_ | apply lD_ | apply lA_)); refine blk_far ?_ NB386_407.out _; (with_reducible repeat (first | apply lN_ | apply lD_ | apply lA_)); refine blk_far ?_ NB386_407.out _; (with_reducible repeat (first | apply lN_ | apply lD_ | apply lA_)); exact BK386.out) hb); have n7_ := Aside0.mk (blk_below (g := gb407) (o := .cells #[.slice Ao27 t398.length co27, .slice Ao30 t401.length co30, .slice Ao31 t404.length co31] 35 (0, 0)) (by (with_reducible repeat (first | apply lN_ | apply lD_ | apply lA_)); refine blk_put (cs := #[.slice Ao27 t398.length co27, .slice Ao30 t401.length co30, .slice none 0 0]) ?_ 2 _ rfl; (with_reducible repeat (first | apply lN_ | apply lD_ | apply lA_)); refine blk_put (cs := #[.slice Ao27 t398.length co27, .slice none 0 0, .slice none 0 0]) ?_ 1 _ rfl; (with_reducible repeat (first | apply lN_ | apply lD_ | apply lA_)); refine blk_put (cs := #[.slice none 0 0, .slice none 0 0, .slice none 0 0]) ?_ 0 _ rfl; (with_reducible repeat (first | apply lN_ | apply lD_ | apply lA_)); exact BK407.out) hb); have n8_ := Aside0.mk (below_step (by repeat (first | (with_reducible first | exact HB.out | apply bA_ | apply bN_ | apply bD_ | refine bS_ ?_ GE386.out | refine bS_ ?_ GE407.out) | exact HB.out)) hb); clear HO390; clear HO393; clear HO396; clear HO400; clear HO403; clear HO406; clear BK386; clear BK407; clear HB; have HO390 := n0_; have HO393 := n1_; have HO396 := n2_; have HO400 := n3_; have HO403 := n4_; have HO406 := n5_; have BK386 := n6_; have BK407 := n7_; have HB := n8_; clear n0_ n1_ n2_ n3_ n4_ n5_ n6_ n7_ n8_; (try clear hb); (try clear hb2); (try clear hk); (try clear hi)))
    have n0_ := Aside0.mk (Kd.R_drew HO390.out)
    have n1_ := Aside0.mk (Kd.R_drew HO393.out)
    have n2_ := Aside0.mk (Kd.R_drew HO396.out)
    have n3_ := Aside0.mk (Kd.R_drew HO400.out)
    have n4_ := Aside0.mk (Kd.R_drew HO403.out)
    have n5_ := Aside0.mk (Kd.R_drew HO406.out)
    have n6_ := Aside0.mk (blk_drew BK386.out)
    have n7_ := Aside0.mk (blk_drew BK407.out)
    have n8_ := Aside0.mk (below_drew1 HB.out)
    clear HO390
    clear HO393
    clear HO396
    clear HO400
    clear HO403
    clear HO406
    clear BK386
    clear BK407
    clear HB
    have HO390 := n0_
    have HO393 := n1_
    have HO396 := n2_
    have HO400 := n3_
    have HO403 := n4_
    have HO406 := n5_
    have BK386 := n6_
    have BK407 := n7_
    have HB := n8_
    clear n0_ n1_ n2_ n3_ n4_ n5_ n6_ n7_ n8_
    refine start_ (n := 5) (S := fun w' => w'.cell? ⟨gb407, 0, none⟩ = some (.slice Ao27 t398.length co27) ∧ w'.cell? ⟨gb407, 1, none⟩ = some (.slice Ao30 t401.length co30) ∧ w'.cell? ⟨gb407, 2, none⟩ = some (.slice Ao31 t404.length co31) ∧ w'.cell? ⟨gb386, 0, none⟩ = some (.slice A0_0 l0_0.length c0_0) ∧ w'.cell? ⟨gb386, 1, none⟩ = some (.slice A0_1 l0_1.length c0_1) ∧ w'.cell? ⟨gb386, 2, none⟩ = some (.slice A0_2 l0_2.length c0_2)) (ds := []) #[false, false, false, false, false] (by kernel_rfl) rfl rfl ⟨(blk_cell BK407.out 0).trans rfl, (blk_cell BK407.out 1).trans rfl, (blk_cell BK407.out 2).trans rfl, (blk_cell BK386.out 0).trans rfl, (blk_cell BK386.out 1).trans rfl, (blk_cell BK386.out 2).trans rfl⟩ (fun hHeld => ?_)
    generalize w32.drew = w33 at HO390 HO393 HO396 HO400 HO403 HO406 BK386 BK407 HB hHeld ⊢
    refine take_ (i := 0) (N := some 22) (v := ?_) (a' := ?_) #[true, false, false, false, false] rfl rfl (by kernel_rfl) (fun _ _ _ h => h) (Or.inl ⟨by rfl, ?_⟩) hHeld ?_ ?_
    rotate_left
    ·rintro w' ⟨s0, s1, s2, s3, s4, s5⟩
     go_simp
     with_reducible rfl
    rotate_left
    ·simp only [Act.put, List.setIfInBounds_toArray, List.set_cons_zero, List.set_cons_succ, i64_w, i32_w]
     rfl
    refine take_ (i := 1) (N := some 23) (v := ?_) (a' := ?_) #[true, true, false, false, false] rfl rfl (by kernel_rfl) (fun _ _ _ h => h) (Or.inl ⟨by rfl, ?_⟩) hHeld ?_ ?_
    rotate_left
    ·rintro w' ⟨s0, s1, s2, s3, s4, s5⟩
     go_simp
     with_reducible rfl
    rotate_left
    ·simp only [Act.put, List.setIfInBounds_toArray, List.set_cons_zero, List.set_cons_succ, i64_w, i32_w]
     rfl
    refine one_ (i := 2) (N := some 24) #[true, true, true, false, false] rfl rfl (by kernel_rfl) (by decide) (fun K hK => ?_)
    refine goes_ Try.func30 (by kernel_rfl) rfl #[.agg #[.slice A0_0 l0_0.length c0_0, .slice A0_1 l0_1.length c0_1, .slice A0_2 l0_2.length c0_2]] (by rfl) rfl rfl (by (try simp only [List.map_toArray, List.map_cons, List.map_nil]); first | done | rfl | (simp only [List.length_drop, List.length_take]; rfl)) ?_
    with_reducible refine (laws_toDesk.calls k _ _ l0_0 _ _ l0_1 _ _ l0_2 t409 t412 t415 _ ?side1 ?side2 ?side3 ?side4 ?side5 ?side6 A12.out).mono ?_
    (case side1 => repeat (first | exact (Kd.C_below HR0_0.out HB.out) | (with_reducible first | apply cA_ | apply cN_ | apply cD_)))
    (case side2 => exact HC0_0.out)
    (case side3 => repeat (first | exact (Kd.C_below HR0_1.out HB.out) | (with_reducible first | apply cA_ | apply cN_ | apply cD_)))
    (case side4 => exact HC0_1.out)
    (case side5 => repeat (first | exact (Kd.C_below HR0_2.out HB.out) | (with_reducible first | apply cA_ | apply cN_ | apply cD_)))
    (case side6 => exact HC0_2.out)
    rintro e w34 ⟨v410, v413, v416, rfl, ho0, ho1, ho2, hb⟩
    refine ⟨_, rfl, ?_⟩
    have n0_ := Aside0.mk (Kd.R_elder' (by (with_reducible repeat (first | apply rA_ | apply rN_ | apply rD_)); exact HO390.out) (Kd.R_base ho0) hb)
    have n1_ := Aside0.mk (Kd.R_mono (Kd.R_told (Kd.R_told (Kd.R_old (by (with_reducible repeat (first | apply rA_ | apply rN_ | apply rD_)); exact HO393.out) hb) (Kd.R_base ho1)) (Kd.R_base ho2)) (fun _ h_ => h_.1))
    have n2_ := Aside0.mk (Kd.R_mono (Kd.R_told (Kd.R_told (Kd.R_old (by (with_reducible repeat (first | apply rA_ | apply rN_ | apply rD_)); exact HO396.out) hb) (Kd.R_base ho1)) (Kd.R_base ho2)) (fun _ h_ => h_.1))
    have n3_ := Aside0.mk (Kd.R_elder' (by (with_reducible repeat (first | apply rA_ | apply rN_ | apply rD_)); exact HO400.out) (Kd.R_base ho0) hb)
    have n4_ := Aside0.mk (Kd.R_mono (Kd.R_told (Kd.R_told (Kd.R_old (by (with_reducible repeat (first | apply rA_ | apply rN_ | apply rD_)); exact HO403.out) hb) (Kd.R_base ho1)) (Kd.R_base ho2)) (fun _ h_ => h_.1))
    have n5_ := Aside0.mk (Kd.R_mono (Kd.R_told (Kd.R_told (Kd.R_old (by (with_reducible repeat (first | apply rA_ | apply rN_ | apply rD_)); exact HO406.out) hb) (Kd.R_base ho1)) (Kd.R_base ho2)) (fun _ h_ => h_.1))
    have n6_ := Aside0.mk (Kd.R_lower (Kd.R_new' (Kd.R_new' ho0 (Kd.R_lt (by (with_reducible repeat (first | apply rA_ | apply rN_ | apply rD_)); exact HO390.out))) (Kd.R_lt (by (with_reducible repeat (first | apply rA_ | apply rN_ | apply rD_)); exact HO400.out))) (below_size (by repeat (first | (with_reducible first | exact HB.out | apply bA_ | apply bN_ | apply bD_ | refine bS_ ?_ GE386.out | refine bS_ ?_ GE407.out) | exact HB.out))))
    have n7_ := Aside0.mk (Kd.R_lower (Kd.R_new' (Kd.R_new' (Kd.R_new' (Kd.R_new' ho1 (Kd.R_lt (by (with_reducible repeat (first | apply rA_ | apply rN_ | apply rD_)); exact HO393.out))) (Kd.R_lt (by (with_reducible repeat (first | apply rA_ | apply rN_ | apply rD_)); exact HO396.out))) (Kd.R_lt (by (with_reducible repeat (first | apply rA_ | apply rN_ | apply rD_)); exact HO403.out))) (Kd.R_lt (by (with_reducible repeat (first | apply rA_ | apply rN_ | apply rD_)); exact HO406.out))) (below_size (by repeat (first | (with_reducible first | exact HB.out | apply bA_ | apply bN_ | apply bD_ | refine bS_ ?_ GE386.out | refine bS_ ?_ GE407.out) | exact HB.out))))
    have n8_ := Aside0.mk (Kd.R_lower (Kd.R_new' (Kd.R_new' (Kd.R_new' (Kd.R_new' ho2 (Kd.R_lt (by (with_reducible repeat (first | apply rA_ | apply rN_ | apply rD_)); exact HO393.out))) (Kd.R_lt (by (with_reducible repeat (first | apply rA_ | apply rN_ | apply rD_)); exact HO396.out))) (Kd.R_lt (by (with_reducible repeat (first | apply rA_ | apply rN_ | apply rD_)); exact HO403.out))) (Kd.R_lt (by (with_reducible repeat (first | apply rA_ | apply rN_ | apply rD_)); exact HO406.out))) (below_size (by repeat (first | (with_reducible first | exact HB.out | apply bA_ | apply bN_ | apply bD_ | refine bS_ ?_ GE386.out | refine bS_ ?_ GE407.out) | exact HB.out))))
    have n9_ := Aside0.mk (blk_below (g := gb386) (o := .cells #[.slice A0_0 l0_0.length c0_0, .slice A0_1 l0_1.length c0_1, .slice A0_2 l0_2.length c0_2] 45 (0, 0)) (by (with_reducible repeat (first | apply lN_ | apply lD_ | apply lA_)); exact BK386.out) hb)
    have n10_ := Aside0.mk (blk_below (g := gb407) (o := .cells #[.slice Ao27 t398.length co27, .slice Ao30 t401.length co30, .slice Ao31 t404.length co31] 35 (0, 0)) (by (with_reducible repeat (first | apply lN_ | apply lD_ | apply lA_)); exact BK407.out) hb)
    have n11_ := Aside0.mk (below_step (by repeat (first | (with_reducible first | exact HB.out | apply bA_ | apply bN_ | apply bD_ | refine bS_ ?_ GE386.out | refine bS_ ?_ GE407.out) | exact HB.out)) hb)
    clear HO390
    clear HO393
    clear HO396
    clear HO400
    clear HO403
    clear HO406
    clear BK386
    clear BK407
    clear HB
    have HO390 := n0_
    have HO393 := n1_
    have HO396 := n2_
    have HO400 := n3_
    have HO403 := n4_
    have HO406 := n5_
    have HO411 := n6_
    have HO414 := n7_
    have HO417 := n8_
    have BK386 := n9_
    have BK407 := n10_
    have HB := n11_
    clear n0_ n1_ n2_ n3_ n4_ n5_ n6_ n7_ n8_ n9_ n10_ n11_
    (try clear hb)
    (try clear hb2)
    (try clear hk)
    (try clear hi)
    (try clear ho0)
    (try clear ho1)
    (try clear ho2)
    obtain ⟨Ao35, co35, eo35⟩ := Kd.R_slice HO411.out
    (first | subst eo35 | (injection eo35 with f1_ f2_ f3_; have f4_ := f1_.symm; have f5_ := f3_.symm; clear f1_ f2_ f3_; subst f4_; subst f5_))
    obtain ⟨Ao36, co36, eo36⟩ := Kd.R_slice HO414.out
    (first | subst eo36 | (injection eo36 with f1_ f2_ f3_; have f4_ := f1_.symm; have f5_ := f3_.symm; clear f1_ f2_ f3_; subst f4_; subst f5_))
    obtain ⟨Ao37, co37, eo37⟩ := Kd.R_slice HO417.out
    (first | subst eo37 | (injection eo37 with f1_ f2_ f3_; have f4_ := f1_.symm; have f5_ := f3_.symm; clear f1_ f2_ f3_; subst f4_; subst f5_))
    refine hK.out _ _ ⟨(blk_cell BK407.out 0).trans rfl, (blk_cell BK407.out 1).trans rfl, (blk_cell BK407.out 2).trans rfl, (blk_cell BK386.out 0).trans rfl, (blk_cell BK386.out 1).trans rfl, (blk_cell BK386.out 2).trans rfl⟩ (fun hHeld => ?_)
    clear hK K
    refine norm_ (a' := ?_) ?_ ?_
    rotate_left
    ·show Act.put _ (some 24) _ = _
     simp only [Act.put, List.setIfInBounds_toArray, List.set_cons_zero, List.set_cons_succ, i64_w, i32_w]
     rfl
    refine one_ (i := 3) (N := some 25) #[true, true, true, true, false] rfl rfl (by kernel_rfl) (by decide) (fun K hK => ?_)
    refine goes_ Try.func23 (by kernel_rfl) rfl #[.agg #[.slice Ao27 t398.length co27, .slice Ao30 t401.length co30, .slice Ao31 t404.length co31], .agg #[.slice Ao35 t409.length co35, .slice Ao36 t412.length co36, .slice Ao37 t415.length co37]] (by rfl) rfl rfl (by (try simp only [List.map_toArray, List.map_cons, List.map_nil]); first | done | rfl | (simp only [List.length_drop, List.length_take]; rfl)) ?_
    with_reducible refine (laws_eqDesk.calls k _ _ t398 _ _ t401 _ _ t404 _ _ t409 _ _ t412 _ _ t415 true _ ?side1 ?side2 ?side3 ?side4 ?side5 ?side6 ?side7 ?side8 ?side9 ?side10 ?side11 ?side12 A13.out).mono ?_
    (case side1 => repeat (first | exact (Kd.R_reads' HO400.out).2.2 | (with_reducible first | apply cA_ | apply cN_ | apply cD_)))
    (case side2 => exact (Kd.R_reads' HO400.out).2.1)
    (case side3 => repeat (first | exact (Kd.R_reads' HO403.out).2.2 | (with_reducible first | apply cA_ | apply cN_ | apply cD_)))
    (case side4 => exact (Kd.R_reads' HO403.out).2.1)
    (case side5 => repeat (first | exact (Kd.R_reads' HO406.out).2.2 | (with_reducible first | apply cA_ | apply cN_ | apply cD_)))
    (case side6 => exact (Kd.R_reads' HO406.out).2.1)
    (case side7 => repeat (first | exact (Kd.R_reads' HO411.out).2.2 | (with_reducible first | apply cA_ | apply cN_ | apply cD_)))
    (case side8 => exact (Kd.R_reads' HO411.out).2.1)
    (case side9 => repeat (first | exact (Kd.R_reads' HO414.out).2.2 | (with_reducible first | apply cA_ | apply cN_ | apply cD_)))
    (case side10 => exact (Kd.R_reads' HO414.out).2.1)
    (case side11 => repeat (first | exact (Kd.R_reads' HO417.out).2.2 | (with_reducible first | apply cA_ | apply cN_ | apply cD_)))
    (case side12 => exact (Kd.R_reads' HO417.out).2.1)
    rintro e w38 ⟨rfl, hb⟩
    refine ⟨_, rfl, ?_⟩
    have n0_ := Aside0.mk (Kd.R_below (by (with_reducible repeat (first | apply rA_ | apply rN_ | apply rD_)); exact HO390.out) hb)
    have n1_ := Aside0.mk (Kd.R_below (by (with_reducible repeat (first | apply rA_ | apply rN_ | apply rD_)); exact HO393.out) hb)
    have n2_ := Aside0.mk (Kd.R_below (by (with_reducible repeat (first | apply rA_ | apply rN_ | apply rD_)); exact HO396.out) hb)
    have n3_ := Aside0.mk (Kd.R_below (by (with_reducible repeat (first | apply rA_ | apply rN_ | apply rD_)); exact HO400.out) hb)
    have n4_ := Aside0.mk (Kd.R_below (by (with_reducible repeat (first | apply rA_ | apply rN_ | apply rD_)); exact HO403.out) hb)
    have n5_ := Aside0.mk (Kd.R_below (by (with_reducible repeat (first | apply rA_ | apply rN_ | apply rD_)); exact HO406.out) hb)
    have n6_ := Aside0.mk (Kd.R_below (by (with_reducible repeat (first | apply rA_ | apply rN_ | apply rD_)); exact HO411.out) hb)
    have n7_ := Aside0.mk (Kd.R_below (by (with_reducible repeat (first | apply rA_ | apply rN_ | apply rD_)); exact HO414.out) hb)
    have n8_ := Aside0.mk (Kd.R_below (by (with_reducible repeat (first | apply rA_ | apply rN_ | apply rD_)); exact HO417.out) hb)
    have n9_ := Aside0.mk (blk_below (g := gb386) (o := .cells #[.slice A0_0 l0_0.length c0_0, .slice A0_1 l0_1.length c0_1, .slice A0_2 l0_2.length c0_2] 45 (0, 0)) (by (with_reducible repeat (first | apply lN_ | apply lD_ | apply lA_)); exact BK386.out) hb)
    have n10_ := Aside0.mk (blk_below (g := gb407) (o := .cells #[.slice Ao27 t398.length co27, .slice Ao30 t401.length co30, .slice Ao31 t404.length co31] 35 (0, 0)) (by (with_reducible repeat (first | apply lN_ | apply lD_ | apply lA_)); exact BK407.out) hb)
    have n11_ := Aside0.mk (below_step (by repeat (first | (with_reducible first | exact HB.out | apply bA_ | apply bN_ | apply bD_ | refine bS_ ?_ GE386.out | refine bS_ ?_ GE407.out) | exact HB.out)) hb)
    clear HO390
    clear HO393
    clear HO396
    clear HO400
    clear HO403
    clear HO406
    clear HO411
    clear HO414
    clear HO417
    clear BK386
    clear BK407
    clear HB
    have HO390 := n0_
    have HO393 := n1_
    have HO396 := n2_
    have HO400 := n3_
    have HO403 := n4_
    have HO406 := n5_
    have HO411 := n6_
    have HO414 := n7_
    have HO417 := n8_
    have BK386 := n9_
    have BK407 := n10_
    have HB := n11_
    clear n0_ n1_ n2_ n3_ n4_ n5_ n6_ n7_ n8_ n9_ n10_ n11_
    (try clear hb)
    (try clear hb2)
    (try clear hk)
    (try clear hi)
    refine hK.out _ _ ⟨(blk_cell BK407.out 0).trans rfl, (blk_cell BK407.out 1).trans rfl, (blk_cell BK407.out 2).trans rfl, (blk_cell BK386.out 0).trans rfl, (blk_cell BK386.out 1).trans rfl, (blk_cell BK386.out 2).trans rfl⟩ (fun hHeld => ?_)
    clear hK K
    refine norm_ (a' := ?_) ?_ ?_
    rotate_left
    ·show Act.put _ (some 25) _ = _
     simp only [Act.put, List.setIfInBounds_toArray, List.set_cons_zero, List.set_cons_succ, i64_w, i32_w]
     rfl
    refine pure_ (i := 4) (N := some 26) (v := ?_) (a' := ?_) #[true, true, true, true, true] rfl rfl (by kernel_rfl) (fun _ _ _ h => h) (Or.inl ⟨by rfl, ?_⟩) ?_ ?_
    rotate_left
    ·intro w'
     go_simp
     with_reducible rfl
    rotate_left
    ·simp only [Act.put, List.setIfInBounds_toArray, List.set_cons_zero, List.set_cons_succ, i64_w, i32_w]
     rfl
    refine done_ (by kernel_rfl) ?_
    try go_wp2
    go_ret
    exact ⟨by first | rfl | (simp [errW_none, errW_some] <;> rfl) | (simp [*, errW_none, errW_some] <;> rfl), by repeat (first | (with_reducible first | exact HB.out | apply bA_ | apply bN_ | apply bD_ | refine bS_ ?_ GE386.out | refine bS_ ?_ GE407.out) | exact HB.out)⟩
   ·replace c14 := Bool.eq_false_iff.mpr c14
    subst c14
    have H1 : (none) = some r := by rw [if_neg (show ¬ (false = true) by decide)] at H; exact H
    clear H
    have H := H1
    clear H1
    exact absurd H (by simp)

end Go.Proofs.Ytmmpnigbfiebbaa.PA
