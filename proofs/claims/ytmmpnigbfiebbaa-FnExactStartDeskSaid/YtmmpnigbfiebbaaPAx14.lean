-- Written by a program of this session (wip/tools/myprint.py). Not trusted: Lean checks it.
import Derived.Test.YtmmpnigbfiebbaaPAx0
import Derived.Test.YtmmpnigbfiebbaaPAx3
import Derived.Test.YtmmpnigbfiebbaaPAx4
import Derived.Test.YtmmpnigbfiebbaaPAx7
namespace Go.Proofs.Ytmmpnigbfiebbaa.PA
open Go.RowKit Go.Proofs.YtmmpnigbfiebbaaW.PrintWords Go.Proofs.YtmmpnigbfiebbaaW.PrintLast Go.Proofs.YtmmpnigbfiebbaaW.PrintMore
attribute [local go_sem] max2_int min2_int max_two min_two max_three min_three max_four min_four   -- for this text's walks alone
set_option linter.unusedVariables false
set_option linter.unusedSimpArgs false

/-! ### spec_StartDesk: function 20 -/
def spec_StartDesk.f (k : Nat) (l0 : List ByteArray) : Option (List ByteArray × (List (S25)) × (List (S25)) × Bool) := (spec_unItems.f k l0).bind fun t154 => (if t154 = true then ((some (([] : List ByteArray) : List ByteArray)).bind fun y155 => (if y155.length + l0.length < 8796093022208 then (some ((y155 ++ l0), ([] : List (S25)), ([] : List (S25)), true)) else (none))) else (some (([] : List ByteArray), ([] : List (S25)), ([] : List (S25)), false)))
theorem spec_StartDesk.mono : ∀ a0 k, LeO (spec_StartDesk.f k a0) (spec_StartDesk.f (k + 1) a0) := by
 intro a0 k
 unfold spec_StartDesk.f
 repeat' first
   | (with_reducible exact spec_unItems.mono _ _)
   | (with_reducible exact LeO.refl _)
   | (with_reducible exact LeO.none _)
   | (with_reducible refine LeO.ite ?_ ?_)
   | (with_reducible refine LeO.bind ?_ (fun _ => ?_))
   | exact spec_unItems.mono _ _
   | exact LeO.none _
   | refine LeO.ite ?_ ?_
   | refine LeO.bind ?_ (fun _ => ?_)
set_option maxHeartbeats 8000000 in
set_option maxRecDepth 100000 in
theorem spec_StartDesk.calls (k : Nat) (A0 : Option Addr) (c0 : Nat) (l0 : List ByteArray) (r1 : List ByteArray) (r2 : List (S25)) (r3 : List (S25)) (r4 : Bool) (w : World) (hr0 : Kd.C Kd.string w A0 l0.length l0) (hc0 : l0.length ≤ c0) (h : spec_StartDesk.f k l0 = some (r1, r2, r3, r4)) :
  Calls Try.prog 20 #[.slice A0 l0.length c0] w fun e w' => ∃ v0_ v1_ v2_ : Value, e = .returned (.tuple #[.agg #[v0_, v1_, v2_], .bool r4]) ∧ Kd.R Kd.string 9 w' w.heap.size (fun _ => True) v0_ r1 ∧ Kd.R k25 25 w' w.heap.size (fun k_ => some k_ ≠ (v2_ : Value).ownBlock) v1_ r2 ∧ Kd.R k25 25 w' w.heap.size (fun k_ => some k_ ≠ (v1_ : Value).ownBlock) v2_ r3 ∧ Below w.heap.size w w' := by
 have hu35 := Try.underlying35
 have HR0 := Aside0.mk hr0
 have HC0 := Aside0.mk hc0
 clear hr0 hc0
 have HB := Aside0.mk (Below.refl w.heap.size w)
 have H : ((spec_unItems.f k l0).bind fun t154 => (if t154 = true then ((some (([] : List ByteArray) : List ByteArray)).bind fun y155 => (if y155.length + l0.length < 8796093022208 then (some ((y155 ++ l0), ([] : List (S25)), ([] : List (S25)), true)) else (none))) else (some (([] : List ByteArray), ([] : List (S25)), ([] : List (S25)), false)))) = some (r1, r2, r3, r4) := h
 clear h
 replace H := Option.bind_eq_some_iff.mp H
 obtain ⟨t154, A20, H⟩ := H
 replace H : (if t154 = true then ((some (([] : List ByteArray) : List ByteArray)).bind fun y155 => (if y155.length + l0.length < 8796093022208 then (some ((y155 ++ l0), ([] : List (S25)), ([] : List (S25)), true)) else (none))) else (some (([] : List ByteArray), ([] : List (S25)), ([] : List (S25)), false))) = some (r1, r2, r3, r4) := H
 have A2 := Aside0.mk A20
 clear A20
 by_cases c3 : t154 = true
 ·subst c3
  have H1 : ((some (([] : List ByteArray) : List ByteArray)).bind fun y155 => (if y155.length + l0.length < 8796093022208 then (some ((y155 ++ l0), ([] : List (S25)), ([] : List (S25)), true)) else (none))) = some (r1, r2, r3, r4) := by rw [if_pos rfl] at H; exact H
  clear H
  have H := H1
  clear H1
  obtain ⟨y155, hy155⟩ : ∃ y_ : List ByteArray, y_ = (([] : List ByteArray)) := ⟨_, rfl⟩
  replace H : (if y155.length + l0.length < 8796093022208 then (some ((y155 ++ l0), ([] : List (S25)), ([] : List (S25)), true)) else (none)) = some (r1, r2, r3, r4) := by first | (rw [hy155]; with_reducible exact H) | (have H2_ := (Option.bind_some _ _).symm.trans H; rw [hy155]; with_reducible exact H2_) | (have H2_ := (Option.bind_some _ _).symm.trans H; with_reducible exact H2_) | with_reducible exact H | (rw [hy155]; exact H) | exact H
  have Ny155 := Aside0.mk hy155
  clear hy155
  by_cases c4 : y155.length + l0.length < 8796093022208
  ·rw [if_pos c4] at H
   have LMc4 := Aside0.mk c4
   clear c4
   obtain ⟨y158, hy158⟩ : ∃ y_ : List ByteArray, y_ = (y155 ++ l0) := ⟨_, rfl⟩
   replace H : (some (y158, ([] : List (S25)), ([] : List (S25)), true)) = some (r1, r2, r3, r4) := by first | (rw [hy158]; with_reducible exact H) | (have H2_ := (Option.bind_some _ _).symm.trans H; rw [hy158]; with_reducible exact H2_) | (have H2_ := (Option.bind_some _ _).symm.trans H; with_reducible exact H2_) | with_reducible exact H | (rw [hy158]; exact H) | exact H
   have Ny158 := Aside0.mk hy158
   clear hy158
   simp only [Option.some.injEq, Prod.mk.injEq] at H
   obtain ⟨rfl, rfl, rfl, rfl⟩ := H
   go_enter Try.func20, Try.ntmps20
   go_wp2_with (first | ((with_reducible refine gate_dst (N := 2) rfl ?_); refine box_event ?hg (N := 2) ?hd (cs := #[.slice none 0 0, .slice none 0 0, .slice none 0 0]) (t := 35) ?hr ?_; (case hd => rfl); (case hg => rfl); (case hr => first | (go_simp; done) | (go_simp; rfl)); intro gb153 hg w5 hbox hb; have n0_ := Aside0.mk (below_step (by repeat (first | (with_reducible first | exact HB.out | apply bA_ | apply bN_ | apply bD_) | exact HB.out)) hb); have n1_ := Aside0.mk (hbox); have n2_ := Aside0.mk ((by rw [hg]; exact (below_size (by repeat (first | (with_reducible first | exact HB.out | apply bA_ | apply bN_ | apply bD_) | exact HB.out))) : w.heap.size ≤ gb153)); have n3_ := Aside0.mk ((by rw [hg]; exact (below_size (by repeat (first | (with_reducible first | exact HB.out | apply bA_ | apply bN_ | apply bD_) | exact HB.out))) : w.heap.size ≤ gb153)); clear HB; have HB := n0_; have BK153 := n1_; have GW153 := n2_; have GE153 := n3_; clear n0_ n1_ n2_ n3_; clear hb hbox hg) | ((with_reducible refine gate_callee (f := 51) rfl ?_); refine goesL_ (some 5) rfl rfl Try.func51 (by kernel_rfl) rfl #[.slice A0 l0.length c0] rfl (by (try simp only [List.map_toArray, List.map_cons, List.map_nil]); first | done | rfl | (simp only [List.length_drop, List.length_take]; rfl)) ?_; (with_reducible refine (spec_unItems.calls k _ _ l0 true _ ?side1 ?side2 A2.out).mono ?_); (case side1 => repeat (first | exact (Kd.C_below HR0.out HB.out) | (with_reducible first | apply cA_ | apply cN_ | apply cD_))); (case side2 => exact HC0.out); rintro e w' ⟨rfl, ⟨nd, rfl⟩⟩; refine ⟨_, rfl, ?_⟩; (try (rw [drewN_self w5]; generalize hq_ : World.drewN w5 _ = w5; have n0_ : Aside0 (w5.heap[gb153]? = some (.cells #[.slice none 0 0, .slice none 0 0, .slice none 0 0] 35 (0, 0))) := ⟨by rw [← hq_]; exact (by (with_reducible repeat (first | apply lN_ | apply lD_ | apply lA_)); exact BK153.out)⟩; have n1_ : Aside0 (Below w.heap.size w w5) := ⟨by rw [← hq_]; exact (by repeat (first | (with_reducible first | exact HB.out | apply bA_ | apply bN_ | apply bD_ | refine bS_ ?_ GE153.out) | exact HB.out))⟩; clear BK153 HB hq_; have BK153 := n0_; have HB := n1_; clear n0_ n1_))) | ((with_reducible refine gate_dst (N := 8) rfl ?_); refine Kd.R_lit Kd.string _ 9 ?hg (N := 8) ?hd (xs := ([] : List ByteArray)) (inner := []) (ok := fun _ => True) (okp := fun _ => True) ?hr ?hp (fun _ hk => hk) trivial (Below.refl _ _) (Nat.le_refl _) (by simp) ?_; (case hd => rfl); (case hg => rfl); (case hr => first | (go_simp; done) | (go_simp; rfl)); (case hp => exact (Reps.none _ _)); intro v156 w6 ho7 hb hg_ hnew_; clear hg_ hnew_; (first | rw [← Ny155.out] at ho7 | (simp only [Int.reduceToNat] at ho7; rw [← Ny155.out] at ho7)); have n0_ := Aside0.mk (Kd.R_lower ho7 (below_size (by repeat (first | (with_reducible first | exact HB.out | apply bA_ | apply bN_ | apply bD_ | refine bS_ ?_ GE153.out) | exact HB.out)))); have n1_ := Aside0.mk (blk_below (g := gb153) (o := .cells #[.slice none 0 0, .slice none 0 0, .slice none 0 0] 35 (0, 0)) (by (with_reducible repeat (first | apply lN_ | apply lD_ | apply lA_)); exact BK153.out) hb); have n2_ := Aside0.mk (below_step (by repeat (first | (with_reducible first | exact HB.out | apply bA_ | apply bN_ | apply bD_ | refine bS_ ?_ GE153.out) | exact HB.out)) hb); clear BK153; clear HB; have HO157 := n0_; have BK153 := n1_; have HB := n2_; clear n0_ n1_ n2_; clear hb ho7) | ((with_reducible refine gate_builtin (b := .append) (xs := #[.tmp 8, .tmp 9]) rfl ?_); at_builtin; refine Kd.R_append_rows Kd.string (w0 := w) w.heap.size rfl (.tmp 8) (.tmp 9) 31 9 (.string ⟨#[]⟩) 16 rfl Try.underlying31 info9 rfl (by decide) (by omega) v156 y155 l0 _ _ _ (fun _ => True) (fun _ => False) rfl rfl ?aO ?aR (fun _ _ h => h) (fun _ h => h.elim) ?aF ?aB ?aS ?aL ?_; (case aR => repeat (first | exact (Kd.C_below HR0.out HB.out) | (with_reducible first | apply cA_ | apply cN_ | apply cD_))); (case aB => exact (by repeat (first | (with_reducible first | exact HB.out | apply bA_ | apply bN_ | apply bD_ | refine bS_ ?_ GE153.out) | exact HB.out))); (case aF => exact (fun _ _ => trivial)); (case aO => exact (by (with_reducible repeat (first | apply rA_ | apply rN_ | apply rD_)); exact HO157.out)); (case aS => exact (below_size (by repeat (first | (with_reducible first | exact HB.out | apply bA_ | apply bN_ | apply bD_ | refine bS_ ?_ GE153.out) | exact HB.out)))); (case aL => have := LMc4.out; omega); intro v159 w8 ho hb hg hat; rw [← Ny158.out] at ho; have n0_ := Aside0.mk (blk_grown (g := gb153) (o := .cells #[.slice none 0 0, .slice none 0 0, .slice none 0 0] 35 (0, 0)) (by (with_reducible repeat (first | apply lN_ | apply lD_ | apply lA_)); exact BK153.out) hg (Kd.R_ne HO157.out BK153.out (by decide))); have n1_ := Aside0.mk (hb); have n2_ := Aside0.mk (ho); clear BK153; clear HB; clear HO157; have BK153 := n0_; have HB := n1_; have HO160 := n2_; clear n0_ n1_ n2_; clear ho hb hg hat; obtain ⟨Ao9, co9, eo9⟩ := Kd.R_slice HO160.out; subst eo9; have hcz10_0 : w8.cell? ⟨gb153, 0, none⟩ = some (.slice none 0 0) := (blk_cell BK153.out 0).trans rfl; have hcz10_1 : w8.cell? ⟨gb153, 1, none⟩ = some (.slice none 0 0) := (blk_cell BK153.out 1).trans rfl; have hcz10_2 : w8.cell? ⟨gb153, 2, none⟩ = some (.slice none 0 0) := (blk_cell BK153.out 2).trans rfl; have hfz10_0 := blk_frozen BK153.out 0; have hfz10_1 := blk_frozen BK153.out 1; have hfz10_2 := blk_frozen BK153.out 2))
   refine bodyPost_ret (results_ct rfl _ _ gb153 35 #[.slice Ao9 y158.length co9, .slice none 0 0, .slice none 0 0] (0, 0) _ rfl (by (with_reducible repeat (first | apply lN_ | apply lD_ | apply lA_)); refine blk_put (cs := #[.slice Ao9 y158.length co9, .slice none 0 0, .slice none 0 0]) ?_ 2 _ rfl; (with_reducible repeat (first | apply lN_ | apply lD_ | apply lA_)); refine blk_put (cs := #[.slice Ao9 y158.length co9, .slice none 0 0, .slice none 0 0]) ?_ 1 _ rfl; (with_reducible repeat (first | apply lN_ | apply lD_ | apply lA_)); refine blk_put (cs := #[.slice none 0 0, .slice none 0 0, .slice none 0 0]) ?_ 0 _ rfl; (with_reducible repeat (first | apply lN_ | apply lD_ | apply lA_)); exact BK153.out) Try.underlying35 rfl (by kernel_rfl)) rfl ?_
   exact ⟨_, _, _, by first | rfl | (simp [errW_none, errW_some] <;> rfl) | (simp [*, errW_none, errW_some] <;> rfl), by (with_reducible repeat (first | apply rA_ | apply rN_ | apply rD_)); exact Kd.R_mono (Kd.R_far (p := ⟨gb153, 2, none⟩) (Kd.R_far (p := ⟨gb153, 1, none⟩) (Kd.R_far (p := ⟨gb153, 0, none⟩) (Kd.R_types HO160.out BK153.out (by decide)) (fun _ hk => hk.2) (.slice Ao9 y158.length co9)) (fun _ hk => hk.2) (.slice none 0 0)) (fun _ hk => hk.2) (.slice none 0 0)) (fun _ hk => trivial), by first | exact Kd.R_nil _ _ _ _ _ | exact Kd.N_nil _ _ _ _ _ | exact Kd.V_nil _ _ _ _ _ | exact Kd.Q_nil _ _ _ _ _ | exact Kd.S_nil _ _ _ _ _, by first | exact Kd.R_nil _ _ _ _ _ | exact Kd.N_nil _ _ _ _ _ | exact Kd.V_nil _ _ _ _ _ | exact Kd.Q_nil _ _ _ _ _ | exact Kd.S_nil _ _ _ _ _, by repeat (first | (with_reducible first | exact HB.out | apply bA_ | apply bN_ | apply bD_ | refine bS_ ?_ GE153.out) | exact HB.out)⟩
  ·rw [if_neg c4] at H
   exact absurd H (by simp)
 ·replace c3 := Bool.eq_false_iff.mpr c3
  subst c3
  have H1 : (some (([] : List ByteArray), ([] : List (S25)), ([] : List (S25)), false)) = some (r1, r2, r3, r4) := by rw [if_neg (show ¬ (false = true) by decide)] at H; exact H
  clear H
  have H := H1
  clear H1
  simp only [Option.some.injEq, Prod.mk.injEq] at H
  obtain ⟨rfl, rfl, rfl, rfl⟩ := H
  go_enter Try.func20, Try.ntmps20
  go_wp2_with (first | ((with_reducible refine gate_dst (N := 2) rfl ?_); refine box_event ?hg (N := 2) ?hd (cs := #[.slice none 0 0, .slice none 0 0, .slice none 0 0]) (t := 35) ?hr ?_; (case hd => rfl); (case hg => rfl); (case hr => first | (go_simp; done) | (go_simp; rfl)); intro gb153 hg w11 hbox hb; have n0_ := Aside0.mk (below_step (by repeat (first | (with_reducible first | exact HB.out | apply bA_ | apply bN_ | apply bD_) | exact HB.out)) hb); have n1_ := Aside0.mk (hbox); have n2_ := Aside0.mk ((by rw [hg]; exact (below_size (by repeat (first | (with_reducible first | exact HB.out | apply bA_ | apply bN_ | apply bD_) | exact HB.out))) : w.heap.size ≤ gb153)); have n3_ := Aside0.mk ((by rw [hg]; exact (below_size (by repeat (first | (with_reducible first | exact HB.out | apply bA_ | apply bN_ | apply bD_) | exact HB.out))) : w.heap.size ≤ gb153)); clear HB; have HB := n0_; have BK153 := n1_; have GW153 := n2_; have GE153 := n3_; clear n0_ n1_ n2_ n3_; clear hb hbox hg) | ((with_reducible refine gate_callee (f := 51) rfl ?_); refine goesL_ (some 5) rfl rfl Try.func51 (by kernel_rfl) rfl #[.slice A0 l0.length c0] rfl (by (try simp only [List.map_toArray, List.map_cons, List.map_nil]); first | done | rfl | (simp only [List.length_drop, List.length_take]; rfl)) ?_; (with_reducible refine (spec_unItems.calls k _ _ l0 false _ ?side1 ?side2 A2.out).mono ?_); (case side1 => repeat (first | exact (Kd.C_below HR0.out HB.out) | (with_reducible first | apply cA_ | apply cN_ | apply cD_))); (case side2 => exact HC0.out); rintro e w' ⟨rfl, ⟨nd, rfl⟩⟩; refine ⟨_, rfl, ?_⟩; (try (rw [drewN_self w11]; generalize hq_ : World.drewN w11 _ = w11; have n0_ : Aside0 (w11.heap[gb153]? = some (.cells #[.slice none 0 0, .slice none 0 0, .slice none 0 0] 35 (0, 0))) := ⟨by rw [← hq_]; exact (by (with_reducible repeat (first | apply lN_ | apply lD_ | apply lA_)); exact BK153.out)⟩; have n1_ : Aside0 (Below w.heap.size w w11) := ⟨by rw [← hq_]; exact (by repeat (first | (with_reducible first | exact HB.out | apply bA_ | apply bN_ | apply bD_ | refine bS_ ?_ GE153.out) | exact HB.out))⟩; clear BK153 HB hq_; have BK153 := n0_; have HB := n1_; clear n0_ n1_)); have hcz12_0 : w11.cell? ⟨gb153, 0, none⟩ = some (.slice none 0 0) := (blk_cell BK153.out 0).trans rfl; have hcz12_1 : w11.cell? ⟨gb153, 1, none⟩ = some (.slice none 0 0) := (blk_cell BK153.out 1).trans rfl; have hcz12_2 : w11.cell? ⟨gb153, 2, none⟩ = some (.slice none 0 0) := (blk_cell BK153.out 2).trans rfl; have hfz12_0 := blk_frozen BK153.out 0; have hfz12_1 := blk_frozen BK153.out 1; have hfz12_2 := blk_frozen BK153.out 2))
  refine bodyPost_ret (results_ct rfl _ _ gb153 35 #[.slice none 0 0, .slice none 0 0, .slice none 0 0] (0, 0) _ rfl (by (with_reducible repeat (first | apply lN_ | apply lD_ | apply lA_)); refine blk_put (cs := #[.slice none 0 0, .slice none 0 0, .slice none 0 0]) ?_ 2 _ rfl; (with_reducible repeat (first | apply lN_ | apply lD_ | apply lA_)); refine blk_put (cs := #[.slice none 0 0, .slice none 0 0, .slice none 0 0]) ?_ 1 _ rfl; (with_reducible repeat (first | apply lN_ | apply lD_ | apply lA_)); refine blk_put (cs := #[.slice none 0 0, .slice none 0 0, .slice none 0 0]) ?_ 0 _ rfl; (with_reducible repeat (first | apply lN_ | apply lD_ | apply lA_)); exact BK153.out) Try.underlying35 rfl (by kernel_rfl)) rfl ?_
  exact ⟨_, _, _, by first | rfl | (simp [errW_none, errW_some] <;> rfl) | (simp [*, errW_none, errW_some] <;> rfl), by first | exact Kd.R_nil _ _ _ _ _ | exact Kd.N_nil _ _ _ _ _ | exact Kd.V_nil _ _ _ _ _ | exact Kd.Q_nil _ _ _ _ _ | exact Kd.S_nil _ _ _ _ _, by first | exact Kd.R_nil _ _ _ _ _ | exact Kd.N_nil _ _ _ _ _ | exact Kd.V_nil _ _ _ _ _ | exact Kd.Q_nil _ _ _ _ _ | exact Kd.S_nil _ _ _ _ _, by first | exact Kd.R_nil _ _ _ _ _ | exact Kd.N_nil _ _ _ _ _ | exact Kd.V_nil _ _ _ _ _ | exact Kd.Q_nil _ _ _ _ _ | exact Kd.S_nil _ _ _ _ _, by repeat (first | (with_reducible first | exact HB.out | apply bA_ | apply bN_ | apply bD_ | refine bS_ ?_ GE153.out) | exact HB.out)⟩

/-! ### impl_StartDesk: function 22 -/
def impl_StartDesk.f (k : Nat) (l0 : List ByteArray) : Option (List ByteArray × (List (S25)) × (List (S25)) × Bool) := (impl_areItems.f k l0).bind fun t167 => (if t167 = true then ((slices_Clone_string_string.f l0).bind fun t168 => (some (t168, ([] : List (S25)), ([] : List (S25)), true))) else (some (([] : List ByteArray), ([] : List (S25)), ([] : List (S25)), false)))
theorem impl_StartDesk.mono : ∀ a0 k, LeO (impl_StartDesk.f k a0) (impl_StartDesk.f (k + 1) a0) := by
 intro a0 k
 unfold impl_StartDesk.f
 repeat' first
   | (with_reducible exact impl_areItems.mono _ _)
   | (with_reducible exact LeO.refl _)
   | (with_reducible exact LeO.none _)
   | (with_reducible refine LeO.ite ?_ ?_)
   | (with_reducible refine LeO.bind ?_ (fun _ => ?_))
   | exact impl_areItems.mono _ _
   | exact LeO.none _
   | refine LeO.ite ?_ ?_
   | refine LeO.bind ?_ (fun _ => ?_)
set_option maxHeartbeats 8000000 in
set_option maxRecDepth 100000 in
theorem impl_StartDesk.calls (k : Nat) (A0 : Option Addr) (c0 : Nat) (l0 : List ByteArray) (r1 : List ByteArray) (r2 : List (S25)) (r3 : List (S25)) (r4 : Bool) (w : World) (hr0 : Kd.C Kd.string w A0 l0.length l0) (hc0 : l0.length ≤ c0) (h : impl_StartDesk.f k l0 = some (r1, r2, r3, r4)) :
  Calls Try.prog 22 #[.slice A0 l0.length c0] w fun e w' => ∃ v0_ v1_ v2_ : Value, e = .returned (.tuple #[.agg #[v0_, v1_, v2_], .bool r4]) ∧ Kd.R Kd.string 9 w' w.heap.size (fun _ => True) v0_ r1 ∧ Kd.R k25 25 w' w.heap.size (fun k_ => some k_ ≠ (v2_ : Value).ownBlock) v1_ r2 ∧ Kd.R k25 25 w' w.heap.size (fun k_ => some k_ ≠ (v1_ : Value).ownBlock) v2_ r3 ∧ Below w.heap.size w w' := by
 have hu35 := Try.underlying35
 have HR0 := Aside0.mk hr0
 have HC0 := Aside0.mk hc0
 clear hr0 hc0
 have HB := Aside0.mk (Below.refl w.heap.size w)
 have H : ((impl_areItems.f k l0).bind fun t167 => (if t167 = true then ((slices_Clone_string_string.f l0).bind fun t168 => (some (t168, ([] : List (S25)), ([] : List (S25)), true))) else (some (([] : List ByteArray), ([] : List (S25)), ([] : List (S25)), false)))) = some (r1, r2, r3, r4) := h
 clear h
 replace H := Option.bind_eq_some_iff.mp H
 obtain ⟨t167, A20, H⟩ := H
 replace H : (if t167 = true then ((slices_Clone_string_string.f l0).bind fun t168 => (some (t168, ([] : List (S25)), ([] : List (S25)), true))) else (some (([] : List ByteArray), ([] : List (S25)), ([] : List (S25)), false))) = some (r1, r2, r3, r4) := H
 have A2 := Aside0.mk A20
 clear A20
 by_cases c3 : t167 = true
 ·subst c3
  have H1 : ((slices_Clone_string_string.f l0).bind fun t168 => (some (t168, ([] : List (S25)), ([] : List (S25)), true))) = some (r1, r2, r3, r4) := by rw [if_pos rfl] at H; exact H
  clear H
  have H := H1
  clear H1
  replace H := Option.bind_eq_some_iff.mp H
  obtain ⟨t168, A40, H⟩ := H
  replace H : (some (t168, ([] : List (S25)), ([] : List (S25)), true)) = some (r1, r2, r3, r4) := H
  have A4 := Aside0.mk A40
  clear A40
  simp only [Option.some.injEq, Prod.mk.injEq] at H
  obtain ⟨rfl, rfl, rfl, rfl⟩ := H
  go_enter Try.func22, Try.ntmps22
  go_wp2_with (first | ((with_reducible refine gate_dst (N := 2) rfl ?_); refine box_event ?hg (N := 2) ?hd (cs := #[.slice none 0 0, .slice none 0 0, .slice none 0 0]) (t := 35) ?hr ?_; (case hd => rfl); (case hg => rfl); (case hr => first | (go_simp; done) | (go_simp; rfl)); intro gb166 hg w5 hbox hb; have n0_ := Aside0.mk (below_step (by repeat (first | (with_reducible first | exact HB.out | apply bA_ | apply bN_ | apply bD_) | exact HB.out)) hb); have n1_ := Aside0.mk (hbox); have n2_ := Aside0.mk ((by rw [hg]; exact (below_size (by repeat (first | (with_reducible first | exact HB.out | apply bA_ | apply bN_ | apply bD_) | exact HB.out))) : w.heap.size ≤ gb166)); have n3_ := Aside0.mk ((by rw [hg]; exact (below_size (by repeat (first | (with_reducible first | exact HB.out | apply bA_ | apply bN_ | apply bD_) | exact HB.out))) : w.heap.size ≤ gb166)); clear HB; have HB := n0_; have BK166 := n1_; have GW166 := n2_; have GE166 := n3_; clear n0_ n1_ n2_ n3_; clear hb hbox hg) | ((with_reducible refine gate_callee (f := 52) rfl ?_); refine goesL_ (some 5) rfl rfl Try.func52 (by kernel_rfl) rfl #[.slice A0 l0.length c0] rfl (by (try simp only [List.map_toArray, List.map_cons, List.map_nil]); first | done | rfl | (simp only [List.length_drop, List.length_take]; rfl)) ?_; (with_reducible refine (impl_areItems.calls k _ _ l0 true _ ?side1 ?side2 A2.out).mono ?_); (case side1 => repeat (first | exact (Kd.C_below HR0.out HB.out) | (with_reducible first | apply cA_ | apply cN_ | apply cD_))); (case side2 => exact HC0.out); rintro e w6 ⟨rfl, hb⟩; refine ⟨_, rfl, ?_⟩; have n0_ := Aside0.mk (blk_below (g := gb166) (o := .cells #[.slice none 0 0, .slice none 0 0, .slice none 0 0] 35 (0, 0)) (by (with_reducible repeat (first | apply lN_ | apply lD_ | apply lA_)); exact BK166.out) hb); have n1_ := Aside0.mk (below_step (by repeat (first | (with_reducible first | exact HB.out | apply bA_ | apply bN_ | apply bD_ | refine bS_ ?_ GE166.out) | exact HB.out)) hb); clear BK166; clear HB; have BK166 := n0_; have HB := n1_; clear n0_ n1_; (try clear hb); (try clear hb2); (try clear hk); (try clear hi)) | ((with_reducible refine gate_callee (f := 53) rfl ?_); refine goesL_ (some 9) rfl rfl Try.func53 (by kernel_rfl) rfl #[.slice A0 l0.length c0] rfl (by (try simp only [List.map_toArray, List.map_cons, List.map_nil]); first | done | rfl | (simp only [List.length_drop, List.length_take]; rfl)) ?_; (with_reducible refine (slices_Clone_string_string.calls _ _ l0 t168 _ ?side1 ?side2 A4.out).mono ?_); (case side1 => repeat (first | exact (Kd.C_below HR0.out HB.out) | (with_reducible first | apply cA_ | apply cN_ | apply cD_))); (case side2 => exact HC0.out); rintro e w7 ⟨v169, rfl, ho0, hb⟩; refine ⟨_, rfl, ?_⟩; have n0_ := Aside0.mk (Kd.R_lower ho0 (below_size (by repeat (first | (with_reducible first | exact HB.out | apply bA_ | apply bN_ | apply bD_ | refine bS_ ?_ GE166.out) | exact HB.out)))); have n1_ := Aside0.mk (blk_below (g := gb166) (o := .cells #[.slice none 0 0, .slice none 0 0, .slice none 0 0] 35 (0, 0)) (by (with_reducible repeat (first | apply lN_ | apply lD_ | apply lA_)); exact BK166.out) hb); have n2_ := Aside0.mk (below_step (by repeat (first | (with_reducible first | exact HB.out | apply bA_ | apply bN_ | apply bD_ | refine bS_ ?_ GE166.out) | exact HB.out)) hb); clear BK166; clear HB; have HO170 := n0_; have BK166 := n1_; have HB := n2_; clear n0_ n1_ n2_; (try clear hb); (try clear hb2); (try clear hk); (try clear hi); (try clear ho0); obtain ⟨Ao8, co8, eo8⟩ := Kd.R_slice HO170.out; subst eo8; have hcz9_0 : w7.cell? ⟨gb166, 0, none⟩ = some (.slice none 0 0) := (blk_cell BK166.out 0).trans rfl; have hcz9_1 : w7.cell? ⟨gb166, 1, none⟩ = some (.slice none 0 0) := (blk_cell BK166.out 1).trans rfl; have hcz9_2 : w7.cell? ⟨gb166, 2, none⟩ = some (.slice none 0 0) := (blk_cell BK166.out 2).trans rfl; have hfz9_0 := blk_frozen BK166.out 0; have hfz9_1 := blk_frozen BK166.out 1; have hfz9_2 := blk_frozen BK166.out 2))
  refine bodyPost_ret (results_ct rfl _ _ gb166 35 #[.slice Ao8 t168.length co8, .slice none 0 0, .slice none 0 0] (0, 0) _ rfl (by (with_reducible repeat (first | apply lN_ | apply lD_ | apply lA_)); refine blk_put (cs := #[.slice Ao8 t168.length co8, .slice none 0 0, .slice none 0 0]) ?_ 2 _ rfl; (with_reducible repeat (first | apply lN_ | apply lD_ | apply lA_)); refine blk_put (cs := #[.slice Ao8 t168.length co8, .slice none 0 0, .slice none 0 0]) ?_ 1 _ rfl; (with_reducible repeat (first | apply lN_ | apply lD_ | apply lA_)); refine blk_put (cs := #[.slice none 0 0, .slice none 0 0, .slice none 0 0]) ?_ 0 _ rfl; (with_reducible repeat (first | apply lN_ | apply lD_ | apply lA_)); exact BK166.out) Try.underlying35 rfl (by kernel_rfl)) rfl ?_
  exact ⟨_, _, _, by first | rfl | (simp [errW_none, errW_some] <;> rfl) | (simp [*, errW_none, errW_some] <;> rfl), by (with_reducible repeat (first | apply rA_ | apply rN_ | apply rD_)); exact Kd.R_mono (Kd.R_far (p := ⟨gb166, 2, none⟩) (Kd.R_far (p := ⟨gb166, 1, none⟩) (Kd.R_far (p := ⟨gb166, 0, none⟩) (Kd.R_types HO170.out BK166.out (by decide)) (fun _ hk => hk.2) (.slice Ao8 t168.length co8)) (fun _ hk => hk.2) (.slice none 0 0)) (fun _ hk => hk.2) (.slice none 0 0)) (fun _ hk => trivial), by first | exact Kd.R_nil _ _ _ _ _ | exact Kd.N_nil _ _ _ _ _ | exact Kd.V_nil _ _ _ _ _ | exact Kd.Q_nil _ _ _ _ _ | exact Kd.S_nil _ _ _ _ _, by first | exact Kd.R_nil _ _ _ _ _ | exact Kd.N_nil _ _ _ _ _ | exact Kd.V_nil _ _ _ _ _ | exact Kd.Q_nil _ _ _ _ _ | exact Kd.S_nil _ _ _ _ _, by repeat (first | (with_reducible first | exact HB.out | apply bA_ | apply bN_ | apply bD_ | refine bS_ ?_ GE166.out) | exact HB.out)⟩
 ·replace c3 := Bool.eq_false_iff.mpr c3
  subst c3
  have H1 : (some (([] : List ByteArray), ([] : List (S25)), ([] : List (S25)), false)) = some (r1, r2, r3, r4) := by rw [if_neg (show ¬ (false = true) by decide)] at H; exact H
  clear H
  have H := H1
  clear H1
  simp only [Option.some.injEq, Prod.mk.injEq] at H
  obtain ⟨rfl, rfl, rfl, rfl⟩ := H
  go_enter Try.func22, Try.ntmps22
  go_wp2_with (first | ((with_reducible refine gate_dst (N := 2) rfl ?_); refine box_event ?hg (N := 2) ?hd (cs := #[.slice none 0 0, .slice none 0 0, .slice none 0 0]) (t := 35) ?hr ?_; (case hd => rfl); (case hg => rfl); (case hr => first | (go_simp; done) | (go_simp; rfl)); intro gb166 hg w10 hbox hb; have n0_ := Aside0.mk (below_step (by repeat (first | (with_reducible first | exact HB.out | apply bA_ | apply bN_ | apply bD_) | exact HB.out)) hb); have n1_ := Aside0.mk (hbox); have n2_ := Aside0.mk ((by rw [hg]; exact (below_size (by repeat (first | (with_reducible first | exact HB.out | apply bA_ | apply bN_ | apply bD_) | exact HB.out))) : w.heap.size ≤ gb166)); have n3_ := Aside0.mk ((by rw [hg]; exact (below_size (by repeat (first | (with_reducible first | exact HB.out | apply bA_ | apply bN_ | apply bD_) | exact HB.out))) : w.heap.size ≤ gb166)); clear HB; have HB := n0_; have BK166 := n1_; have GW166 := n2_; have GE166 := n3_; clear n0_ n1_ n2_ n3_; clear hb hbox hg) | ((with_reducible refine gate_callee (f := 52) rfl ?_); refine goesL_ (some 5) rfl rfl Try.func52 (by kernel_rfl) rfl #[.slice A0 l0.length c0] rfl (by (try simp only [List.map_toArray, List.map_cons, List.map_nil]); first | done | rfl | (simp only [List.length_drop, List.length_take]; rfl)) ?_; (with_reducible refine (impl_areItems.calls k _ _ l0 false _ ?side1 ?side2 A2.out).mono ?_); (case side1 => repeat (first | exact (Kd.C_below HR0.out HB.out) | (with_reducible first | apply cA_ | apply cN_ | apply cD_))); (case side2 => exact HC0.out); rintro e w11 ⟨rfl, hb⟩; refine ⟨_, rfl, ?_⟩; have n0_ := Aside0.mk (blk_below (g := gb166) (o := .cells #[.slice none 0 0, .slice none 0 0, .slice none 0 0] 35 (0, 0)) (by (with_reducible repeat (first | apply lN_ | apply lD_ | apply lA_)); exact BK166.out) hb); have n1_ := Aside0.mk (below_step (by repeat (first | (with_reducible first | exact HB.out | apply bA_ | apply bN_ | apply bD_ | refine bS_ ?_ GE166.out) | exact HB.out)) hb); clear BK166; clear HB; have BK166 := n0_; have HB := n1_; clear n0_ n1_; (try clear hb); (try clear hb2); (try clear hk); (try clear hi); have hcz12_0 : w11.cell? ⟨gb166, 0, none⟩ = some (.slice none 0 0) := (blk_cell BK166.out 0).trans rfl; have hcz12_1 : w11.cell? ⟨gb166, 1, none⟩ = some (.slice none 0 0) := (blk_cell BK166.out 1).trans rfl; have hcz12_2 : w11.cell? ⟨gb166, 2, none⟩ = some (.slice none 0 0) := (blk_cell BK166.out 2).trans rfl; have hfz12_0 := blk_frozen BK166.out 0; have hfz12_1 := blk_frozen BK166.out 1; have hfz12_2 := blk_frozen BK166.out 2))
  refine bodyPost_ret (results_ct rfl _ _ gb166 35 #[.slice none 0 0, .slice none 0 0, .slice none 0 0] (0, 0) _ rfl (by (with_reducible repeat (first | apply lN_ | apply lD_ | apply lA_)); refine blk_put (cs := #[.slice none 0 0, .slice none 0 0, .slice none 0 0]) ?_ 2 _ rfl; (with_reducible repeat (first | apply lN_ | apply lD_ | apply lA_)); refine blk_put (cs := #[.slice none 0 0, .slice none 0 0, .slice none 0 0]) ?_ 1 _ rfl; (with_reducible repeat (first | apply lN_ | apply lD_ | apply lA_)); refine blk_put (cs := #[.slice none 0 0, .slice none 0 0, .slice none 0 0]) ?_ 0 _ rfl; (with_reducible repeat (first | apply lN_ | apply lD_ | apply lA_)); exact BK166.out) Try.underlying35 rfl (by kernel_rfl)) rfl ?_
  exact ⟨_, _, _, by first | rfl | (simp [errW_none, errW_some] <;> rfl) | (simp [*, errW_none, errW_some] <;> rfl), by first | exact Kd.R_nil _ _ _ _ _ | exact Kd.N_nil _ _ _ _ _ | exact Kd.V_nil _ _ _ _ _ | exact Kd.Q_nil _ _ _ _ _ | exact Kd.S_nil _ _ _ _ _, by first | exact Kd.R_nil _ _ _ _ _ | exact Kd.N_nil _ _ _ _ _ | exact Kd.V_nil _ _ _ _ _ | exact Kd.Q_nil _ _ _ _ _ | exact Kd.S_nil _ _ _ _ _, by first | exact Kd.R_nil _ _ _ _ _ | exact Kd.N_nil _ _ _ _ _ | exact Kd.V_nil _ _ _ _ _ | exact Kd.Q_nil _ _ _ _ _ | exact Kd.S_nil _ _ _ _ _, by repeat (first | (with_reducible first | exact HB.out | apply bA_ | apply bN_ | apply bD_ | refine bS_ ?_ GE166.out) | exact HB.out)⟩

/-! ### laws_FnExactStartDesk: function 4 -/
mutual
def laws_FnExactStartDesk.j0 : Nat → List ByteArray → Bool → List ByteArray → Bool → Bool → List ByteArray → List (S25) → List (S25) → List ByteArray → List (S25) → List (S25) → Option (Bool)
 | 0, _, _, _, _, _, _, _, _, _, _, _ => none
 | k + 1, x0, x5, x6, x8, x40, x226000, x226001, x226002, x240000, x240001, x240002 => if x40 = true then (none) else ((laws_toStringS.f k x0).bind fun t241 => ((laws_eqStringS.f k x6 t241).bind fun t244 => (if t244 = true then ((laws_markStringS.f k x6 1).bind fun bt245 => (if bt245.1 < 0 then (laws_FnExactStartDesk.j1 k x0 x5 true x226000 x226001 x226002 x240000 x240001 x240002) else ((laws_eqDesk.f k x240000 x240001 x240002 x226000 x226001 x226002).bind fun t247 => (if t247 = true then (laws_FnExactStartDesk.j1 k x0 x5 (x8 != x5) x226000 x226001 x226002 x240000 x240001 x240002) else (laws_FnExactStartDesk.j1 k x0 x5 true x226000 x226001 x226002 x240000 x240001 x240002))))) else (none))))
def laws_FnExactStartDesk.j1 : Nat → List ByteArray → Bool → Bool → List ByteArray → List (S25) → List (S25) → List ByteArray → List (S25) → List (S25) → Option (Bool)
 | 0, _, _, _, _, _, _, _, _, _ => none
 | k + 1, x0, x5, x61, x226000, x226001, x226002, x240000, x240001, x240002 => if x61 = true then (none) else ((laws_markDesk.f k x240000 x240001 x240002 1).bind fun bt248 => ((laws_heldDesk.f k bt248.2.1 bt248.2.2.1 bt248.2.2.2 1).bind fun t252 => (if t252 < 0 then (none) else (if t252 = bt248.1 then ((laws_toStringS.f k x0).bind fun t253 => ((impl_StartDesk.f k t253).bind fun bt256 => ((laws_eqDesk.f k bt256.1 bt256.2.1 bt256.2.2.1 x226000 x226001 x226002).bind fun t267 => (if t267 = true then (laws_FnExactStartDesk.j2 k bt248.1 (bt256.2.2.2 != x5) bt248.2.1 bt248.2.2.1 bt248.2.2.2) else (laws_FnExactStartDesk.j2 k bt248.1 true bt248.2.1 bt248.2.2.1 bt248.2.2.2))))) else (none)))))
def laws_FnExactStartDesk.j2 : Nat → Int → Bool → List ByteArray → List (S25) → List (S25) → Option (Bool)
 | 0, _, _, _, _, _ => none
 | k + 1, x10, x87, x240000, x240001, x240002 => if x87 = true then (none) else ((laws_heldDesk.f k x240000 x240001 x240002 1).bind fun t268 => (if t268 < 0 then (none) else (if t268 = x10 then (some true) else (none))))
end
def laws_FnExactStartDesk.f (k : Nat) (l0 : List ByteArray) : Option (Bool) := (laws_szStringS.f k l0 1048576).bind fun t211 => (if t211 < 0 then (some true) else ((laws_toStringS.f k l0).bind fun t212 => ((spec_StartDesk.f k t212).bind fun bt215 => ((laws_toStringS.f k l0).bind fun t226 => ((impl_StartDesk.f k t226).bind fun bt229 => ((laws_eqDesk.f k bt229.1 bt229.2.1 bt229.2.2.1 bt215.1 bt215.2.1 bt215.2.2.1).bind fun t240 => (if t240 = true then (laws_FnExactStartDesk.j0 k l0 bt215.2.2.2 t226 bt229.2.2.2 (bt229.2.2.2 != bt215.2.2.2) bt215.1 bt215.2.1 bt215.2.2.1 bt229.1 bt229.2.1 bt229.2.2.1) else (laws_FnExactStartDesk.j0 k l0 bt215.2.2.2 t226 bt229.2.2.2 true bt215.1 bt215.2.1 bt215.2.2.1 bt229.1 bt229.2.1 bt229.2.2.1))))))))
theorem laws_FnExactStartDesk.mono_l : ∀ k, (∀ y0 y1 y2 y3 y4 y5 y6 y7 y8 y9 y10, LeO (laws_FnExactStartDesk.j0 k y0 y1 y2 y3 y4 y5 y6 y7 y8 y9 y10) (laws_FnExactStartDesk.j0 (k + 1) y0 y1 y2 y3 y4 y5 y6 y7 y8 y9 y10)) ∧ (∀ y0 y1 y2 y3 y4 y5 y6 y7 y8, LeO (laws_FnExactStartDesk.j1 k y0 y1 y2 y3 y4 y5 y6 y7 y8) (laws_FnExactStartDesk.j1 (k + 1) y0 y1 y2 y3 y4 y5 y6 y7 y8)) ∧ (∀ y0 y1 y2 y3 y4, LeO (laws_FnExactStartDesk.j2 k y0 y1 y2 y3 y4) (laws_FnExactStartDesk.j2 (k + 1) y0 y1 y2 y3 y4))
 | 0 => ⟨fun _ _ _ _ _ _ _ _ _ _ _ r h => by simp [laws_FnExactStartDesk.j0] at h, fun _ _ _ _ _ _ _ _ _ r h => by simp [laws_FnExactStartDesk.j1] at h, fun _ _ _ _ _ r h => by simp [laws_FnExactStartDesk.j2] at h⟩
 | k + 1 => by
  obtain ⟨ih0, ih1, ih2⟩ := laws_FnExactStartDesk.mono_l k
  refine ⟨?_, ?_, ?_⟩
  ·intro y0 y1 y2 y3 y4 y5 y6 y7 y8 y9 y10
   unfold laws_FnExactStartDesk.j0
   repeat' first
   | (with_reducible exact ih0 _ _ _ _ _ _ _ _ _ _ _)
   | (with_reducible exact ih1 _ _ _ _ _ _ _ _ _)
   | (with_reducible exact ih2 _ _ _ _ _)
   | (with_reducible exact impl_StartDesk.mono _ _)
   | (with_reducible exact laws_eqDesk.mono _ _ _ _ _ _ _)
   | (with_reducible exact laws_eqStringS.mono _ _ _)
   | (with_reducible exact laws_heldDesk.mono _ _ _ _ _)
   | (with_reducible exact laws_markDesk.mono _ _ _ _ _)
   | (with_reducible exact laws_markStringS.mono _ _ _)
   | (with_reducible exact laws_szStringS.mono _ _ _)
   | (with_reducible exact laws_toStringS.mono _ _)
   | (with_reducible exact spec_StartDesk.mono _ _)
   | (with_reducible exact LeO.refl _)
   | (with_reducible exact LeO.none _)
   | (with_reducible refine LeO.ite ?_ ?_)
   | (with_reducible refine LeO.bind ?_ (fun _ => ?_))
   | exact ih0 _ _ _ _ _ _ _ _ _ _ _
   | exact ih1 _ _ _ _ _ _ _ _ _
   | exact ih2 _ _ _ _ _
   | exact impl_StartDesk.mono _ _
   | exact laws_eqDesk.mono _ _ _ _ _ _ _
   | exact laws_eqStringS.mono _ _ _
   | exact laws_heldDesk.mono _ _ _ _ _
   | exact laws_markDesk.mono _ _ _ _ _
   | exact laws_markStringS.mono _ _ _
   | exact laws_szStringS.mono _ _ _
   | exact laws_toStringS.mono _ _
   | exact spec_StartDesk.mono _ _
   | exact LeO.none _
   | refine LeO.ite ?_ ?_
   | refine LeO.bind ?_ (fun _ => ?_)
  ·intro y0 y1 y2 y3 y4 y5 y6 y7 y8
   unfold laws_FnExactStartDesk.j1
   repeat' first
   | (with_reducible exact ih0 _ _ _ _ _ _ _ _ _ _ _)
   | (with_reducible exact ih1 _ _ _ _ _ _ _ _ _)
   | (with_reducible exact ih2 _ _ _ _ _)
   | (with_reducible exact impl_StartDesk.mono _ _)
   | (with_reducible exact laws_eqDesk.mono _ _ _ _ _ _ _)
   | (with_reducible exact laws_eqStringS.mono _ _ _)
   | (with_reducible exact laws_heldDesk.mono _ _ _ _ _)
   | (with_reducible exact laws_markDesk.mono _ _ _ _ _)
   | (with_reducible exact laws_markStringS.mono _ _ _)
   | (with_reducible exact laws_szStringS.mono _ _ _)
   | (with_reducible exact laws_toStringS.mono _ _)
   | (with_reducible exact spec_StartDesk.mono _ _)
   | (with_reducible exact LeO.refl _)
   | (with_reducible exact LeO.none _)
   | (with_reducible refine LeO.ite ?_ ?_)
   | (with_reducible refine LeO.bind ?_ (fun _ => ?_))
   | exact ih0 _ _ _ _ _ _ _ _ _ _ _
   | exact ih1 _ _ _ _ _ _ _ _ _
   | exact ih2 _ _ _ _ _
   | exact impl_StartDesk.mono _ _
   | exact laws_eqDesk.mono _ _ _ _ _ _ _
   | exact laws_eqStringS.mono _ _ _
   | exact laws_heldDesk.mono _ _ _ _ _
   | exact laws_markDesk.mono _ _ _ _ _
   | exact laws_markStringS.mono _ _ _
   | exact laws_szStringS.mono _ _ _
   | exact laws_toStringS.mono _ _
   | exact spec_StartDesk.mono _ _
   | exact LeO.none _
   | refine LeO.ite ?_ ?_
   | refine LeO.bind ?_ (fun _ => ?_)
  ·intro y0 y1 y2 y3 y4
   unfold laws_FnExactStartDesk.j2
   repeat' first
   | (with_reducible exact ih0 _ _ _ _ _ _ _ _ _ _ _)
   | (with_reducible exact ih1 _ _ _ _ _ _ _ _ _)
   | (with_reducible exact ih2 _ _ _ _ _)
   | (with_reducible exact impl_StartDesk.mono _ _)
   | (with_reducible exact laws_eqDesk.mono _ _ _ _ _ _ _)
   | (with_reducible exact laws_eqStringS.mono _ _ _)
   | (with_reducible exact laws_heldDesk.mono _ _ _ _ _)
   | (with_reducible exact laws_markDesk.mono _ _ _ _ _)
   | (with_reducible exact laws_markStringS.mono _ _ _)
   | (with_reducible exact laws_szStringS.mono _ _ _)
   | (with_reducible exact laws_toStringS.mono _ _)
   | (with_reducible exact spec_StartDesk.mono _ _)
   | (with_reducible exact LeO.refl _)
   | (with_reducible exact LeO.none _)
   | (with_reducible refine LeO.ite ?_ ?_)
   | (with_reducible refine LeO.bind ?_ (fun _ => ?_))
   | exact ih0 _ _ _ _ _ _ _ _ _ _ _
   | exact ih1 _ _ _ _ _ _ _ _ _
   | exact ih2 _ _ _ _ _
   | exact impl_StartDesk.mono _ _
   | exact laws_eqDesk.mono _ _ _ _ _ _ _
   | exact laws_eqStringS.mono _ _ _
   | exact laws_heldDesk.mono _ _ _ _ _
   | exact laws_markDesk.mono _ _ _ _ _
   | exact laws_markStringS.mono _ _ _
   | exact laws_szStringS.mono _ _ _
   | exact laws_toStringS.mono _ _
   | exact spec_StartDesk.mono _ _
   | exact LeO.none _
   | refine LeO.ite ?_ ?_
   | refine LeO.bind ?_ (fun _ => ?_)
theorem laws_FnExactStartDesk.mono : ∀ a0 k, LeO (laws_FnExactStartDesk.f k a0) (laws_FnExactStartDesk.f (k + 1) a0) := by
 intro a0 k
 obtain ⟨ih0, ih1, ih2⟩ := laws_FnExactStartDesk.mono_l k
 unfold laws_FnExactStartDesk.f
 repeat' first
   | (with_reducible exact ih0 _ _ _ _ _ _ _ _ _ _ _)
   | (with_reducible exact ih1 _ _ _ _ _ _ _ _ _)
   | (with_reducible exact ih2 _ _ _ _ _)
   | (with_reducible exact impl_StartDesk.mono _ _)
   | (with_reducible exact laws_eqDesk.mono _ _ _ _ _ _ _)
   | (with_reducible exact laws_eqStringS.mono _ _ _)
   | (with_reducible exact laws_heldDesk.mono _ _ _ _ _)
   | (with_reducible exact laws_markDesk.mono _ _ _ _ _)
   | (with_reducible exact laws_markStringS.mono _ _ _)
   | (with_reducible exact laws_szStringS.mono _ _ _)
   | (with_reducible exact laws_toStringS.mono _ _)
   | (with_reducible exact spec_StartDesk.mono _ _)
   | (with_reducible exact LeO.refl _)
   | (with_reducible exact LeO.none _)
   | (with_reducible refine LeO.ite ?_ ?_)
   | (with_reducible refine LeO.bind ?_ (fun _ => ?_))
   | exact ih0 _ _ _ _ _ _ _ _ _ _ _
   | exact ih1 _ _ _ _ _ _ _ _ _
   | exact ih2 _ _ _ _ _
   | exact impl_StartDesk.mono _ _
   | exact laws_eqDesk.mono _ _ _ _ _ _ _
   | exact laws_eqStringS.mono _ _ _
   | exact laws_heldDesk.mono _ _ _ _ _
   | exact laws_markDesk.mono _ _ _ _ _
   | exact laws_markStringS.mono _ _ _
   | exact laws_szStringS.mono _ _ _
   | exact laws_toStringS.mono _ _
   | exact spec_StartDesk.mono _ _
   | exact LeO.none _
   | refine LeO.ite ?_ ?_
   | refine LeO.bind ?_ (fun _ => ?_)
set_option maxHeartbeats 8000000 in
set_option maxRecDepth 100000 in
theorem laws_FnExactStartDesk.calls (k : Nat) (A0 : Option Addr) (c0 : Nat) (l0 : List ByteArray) (r : Bool) (w : World) (hr0 : Kd.C Kd.string w A0 l0.length l0) (hc0 : l0.length ≤ c0) (h : laws_FnExactStartDesk.f k l0 = some r) :
  Calls Try.prog 4 #[.slice A0 l0.length c0] w fun e w' => e = .returned (.bool r) ∧ Below w.heap.size w w' := by
 have hu35 := Try.underlying35
 have HR0 := Aside0.mk hr0
 have HC0 := Aside0.mk hc0
 clear hr0 hc0
 have HB := Aside0.mk (Below.refl w.heap.size w)
 have H : ((laws_szStringS.f k l0 1048576).bind fun t211 => (if t211 < 0 then (some true) else ((laws_toStringS.f k l0).bind fun t212 => ((spec_StartDesk.f k t212).bind fun bt215 => ((laws_toStringS.f k l0).bind fun t226 => ((impl_StartDesk.f k t226).bind fun bt229 => ((laws_eqDesk.f k bt229.1 bt229.2.1 bt229.2.2.1 bt215.1 bt215.2.1 bt215.2.2.1).bind fun t240 => (if t240 = true then (laws_FnExactStartDesk.j0 k l0 bt215.2.2.2 t226 bt229.2.2.2 (bt229.2.2.2 != bt215.2.2.2) bt215.1 bt215.2.1 bt215.2.2.1 bt229.1 bt229.2.1 bt229.2.2.1) else (laws_FnExactStartDesk.j0 k l0 bt215.2.2.2 t226 bt229.2.2.2 true bt215.1 bt215.2.1 bt215.2.2.1 bt229.1 bt229.2.1 bt229.2.2.1))))))))) = some r := h
 clear h
 replace H := Option.bind_eq_some_iff.mp H
 obtain ⟨t211, A20, H⟩ := H
 replace H : (if t211 < 0 then (some true) else ((laws_toStringS.f k l0).bind fun t212 => ((spec_StartDesk.f k t212).bind fun bt215 => ((laws_toStringS.f k l0).bind fun t226 => ((impl_StartDesk.f k t226).bind fun bt229 => ((laws_eqDesk.f k bt229.1 bt229.2.1 bt229.2.2.1 bt215.1 bt215.2.1 bt215.2.2.1).bind fun t240 => (if t240 = true then (laws_FnExactStartDesk.j0 k l0 bt215.2.2.2 t226 bt229.2.2.2 (bt229.2.2.2 != bt215.2.2.2) bt215.1 bt215.2.1 bt215.2.2.1 bt229.1 bt229.2.1 bt229.2.2.1) else (laws_FnExactStartDesk.j0 k l0 bt215.2.2.2 t226 bt229.2.2.2 true bt215.1 bt215.2.1 bt215.2.2.1 bt229.1 bt229.2.1 bt229.2.2.1)))))))) = some r := H
 have A2 := Aside0.mk A20
 clear A20
 by_cases c3 : t211 < 0
 ·rw [if_pos c3] at H
  have c3b0 : decide (t211 < 0) = true := decide_eq_true c3
  clear c3
  obtain rfl := Option.some.inj H
  go_enter Try.func4, Try.ntmps4
  go_wp2_with (first | ((with_reducible refine gate_callee (f := 19) rfl ?_); refine goesL_ (some 16) rfl rfl Try.func19 (by kernel_rfl) rfl #[.slice A0 l0.length c0, .int .i64 1048576] rfl (by (try simp only [List.map_toArray, List.map_cons, List.map_nil]); first | done | rfl | (simp only [List.length_drop, List.length_take]; rfl)) ?_; (with_reducible refine (laws_szStringS.calls k _ _ l0 1048576 t211 _ ?side1 ?side2 A2.out).mono ?_); (case side1 => repeat (first | exact HR0.out | (with_reducible first | apply cA_ | apply cN_ | apply cD_))); (case side2 => exact HC0.out); rintro e w' ⟨rfl, ⟨nd, rfl⟩⟩; refine ⟨_, rfl, ?_⟩))
  go_ret
  exact ⟨by first | rfl | (simp [errW_none, errW_some] <;> rfl) | (simp [*, errW_none, errW_some] <;> rfl), by repeat (first | (with_reducible first | exact HB.out | apply bA_ | apply bN_ | apply bD_) | exact HB.out)⟩
 ·rw [if_neg c3] at H
  have c3b0 : decide (t211 < 0) = false := decide_eq_false c3
  clear c3
  replace H := Option.bind_eq_some_iff.mp H
  obtain ⟨t212, A40, H⟩ := H
  replace H : ((spec_StartDesk.f k t212).bind fun bt215 => ((laws_toStringS.f k l0).bind fun t226 => ((impl_StartDesk.f k t226).bind fun bt229 => ((laws_eqDesk.f k bt229.1 bt229.2.1 bt229.2.2.1 bt215.1 bt215.2.1 bt215.2.2.1).bind fun t240 => (if t240 = true then (laws_FnExactStartDesk.j0 k l0 bt215.2.2.2 t226 bt229.2.2.2 (bt229.2.2.2 != bt215.2.2.2) bt215.1 bt215.2.1 bt215.2.2.1 bt229.1 bt229.2.1 bt229.2.2.1) else (laws_FnExactStartDesk.j0 k l0 bt215.2.2.2 t226 bt229.2.2.2 true bt215.1 bt215.2.1 bt215.2.2.1 bt229.1 bt229.2.1 bt229.2.2.1)))))) = some r := H
  have A4 := Aside0.mk A40
  clear A40
  replace H := Option.bind_eq_some_iff.mp H
  obtain ⟨⟨t215, t218, t221, t224⟩, A50, H⟩ := H
  replace H : ((laws_toStringS.f k l0).bind fun t226 => ((impl_StartDesk.f k t226).bind fun bt229 => ((laws_eqDesk.f k bt229.1 bt229.2.1 bt229.2.2.1 t215 t218 t221).bind fun t240 => (if t240 = true then (laws_FnExactStartDesk.j0 k l0 t224 t226 bt229.2.2.2 (bt229.2.2.2 != t224) t215 t218 t221 bt229.1 bt229.2.1 bt229.2.2.1) else (laws_FnExactStartDesk.j0 k l0 t224 t226 bt229.2.2.2 true t215 t218 t221 bt229.1 bt229.2.1 bt229.2.2.1))))) = some r := H
  have A5 := Aside0.mk A50
  clear A50
  replace H := Option.bind_eq_some_iff.mp H
  obtain ⟨t226, A60, H⟩ := H
  replace H : ((impl_StartDesk.f k t226).bind fun bt229 => ((laws_eqDesk.f k bt229.1 bt229.2.1 bt229.2.2.1 t215 t218 t221).bind fun t240 => (if t240 = true then (laws_FnExactStartDesk.j0 k l0 t224 t226 bt229.2.2.2 (bt229.2.2.2 != t224) t215 t218 t221 bt229.1 bt229.2.1 bt229.2.2.1) else (laws_FnExactStartDesk.j0 k l0 t224 t226 bt229.2.2.2 true t215 t218 t221 bt229.1 bt229.2.1 bt229.2.2.1)))) = some r := H
  have A6 := Aside0.mk A60
  clear A60
  replace H := Option.bind_eq_some_iff.mp H
  obtain ⟨⟨t229, t232, t235, t238⟩, A70, H⟩ := H
  replace H : ((laws_eqDesk.f k t229 t232 t235 t215 t218 t221).bind fun t240 => (if t240 = true then (laws_FnExactStartDesk.j0 k l0 t224 t226 t238 (t238 != t224) t215 t218 t221 t229 t232 t235) else (laws_FnExactStartDesk.j0 k l0 t224 t226 t238 true t215 t218 t221 t229 t232 t235))) = some r := H
  have A7 := Aside0.mk A70
  clear A70
  have HC8 := Aside0.mk H
  clear H
  go_enter Try.func4, Try.ntmps4
  go_upto_region 8 with (first | ((with_reducible refine gate_callee (f := 19) rfl ?_); refine goesL_ (some 16) rfl rfl Try.func19 (by kernel_rfl) rfl #[.slice A0 l0.length c0, .int .i64 1048576] rfl (by (try simp only [List.map_toArray, List.map_cons, List.map_nil]); first | done | rfl | (simp only [List.length_drop, List.length_take]; rfl)) ?_; (with_reducible refine (laws_szStringS.calls k _ _ l0 1048576 t211 _ ?side1 ?side2 A2.out).mono ?_); (case side1 => repeat (first | exact HR0.out | (with_reducible first | apply cA_ | apply cN_ | apply cD_))); (case side2 => exact HC0.out); rintro e w' ⟨rfl, ⟨nd, rfl⟩⟩; refine ⟨_, rfl, ?_⟩) | ((with_reducible refine gate_callee (f := 21) rfl ?_); refine goesL_ (some 21) rfl rfl Try.func21 (by kernel_rfl) rfl #[.slice A0 l0.length c0] rfl (by (try simp only [List.map_toArray, List.map_cons, List.map_nil]); first | done | rfl | (simp only [List.length_drop, List.length_take]; rfl)) ?_; (with_reducible refine (laws_toStringS.calls k _ _ l0 t212 _ ?side1 ?side2 A4.out).mono ?_); (case side1 => repeat (first | exact HR0.out | (with_reducible first | apply cA_ | apply cN_ | apply cD_))); (case side2 => exact HC0.out); rintro e w9 ⟨v213, rfl, ho0, hb⟩; refine ⟨_, rfl, ?_⟩; have n0_ := Aside0.mk (Kd.R_lower ho0 (below_size (by repeat (first | (with_reducible first | exact HB.out | apply bA_ | apply bN_ | apply bD_) | exact HB.out)))); have n1_ := Aside0.mk (below_step (by repeat (first | (with_reducible first | exact HB.out | apply bA_ | apply bN_ | apply bD_) | exact HB.out)) hb); clear HB; have HO214 := n0_; have HB := n1_; clear n0_ n1_; (try clear hb); (try clear hb2); (try clear hk); (try clear hi); (try clear ho0); obtain ⟨Ao10, co10, eo10⟩ := Kd.R_slice HO214.out; subst eo10) | ((with_reducible refine gate_callee (f := 20) rfl ?_); refine goesL_ (some 22) rfl rfl Try.func20 (by kernel_rfl) rfl #[.slice Ao10 t212.length co10] rfl (by (try simp only [List.map_toArray, List.map_cons, List.map_nil]); first | done | rfl | (simp only [List.length_drop, List.length_take]; rfl)) ?_; (with_reducible refine (spec_StartDesk.calls k _ _ t212 t215 t218 t221 t224 _ ?side1 ?side2 A5.out).mono ?_); (case side1 => repeat (first | exact (Kd.R_reads' HO214.out).2.2 | (with_reducible first | apply cA_ | apply cN_ | apply cD_))); (case side2 => exact (Kd.R_reads' HO214.out).2.1); rintro e w11 ⟨v216, v219, v222, rfl, ho0, ho1, ho2, hb⟩; refine ⟨_, rfl, ?_⟩; have n0_ := Aside0.mk (Kd.R_elder' (by (with_reducible repeat (first | apply rA_ | apply rN_ | apply rD_)); exact HO214.out) (Kd.R_base ho0) hb); have n1_ := Aside0.mk (Kd.R_lower (Kd.R_new' ho0 (Kd.R_lt (by (with_reducible repeat (first | apply rA_ | apply rN_ | apply rD_)); exact HO214.out))) (below_size (by repeat (first | (with_reducible first | exact HB.out | apply bA_ | apply bN_ | apply bD_) | exact HB.out)))); have n2_ := Aside0.mk (Kd.R_lower ho1 (below_size (by repeat (first | (with_reducible first | exact HB.out | apply bA_ | apply bN_ | apply bD_) | exact HB.out)))); have n3_ := Aside0.mk (Kd.R_lower ho2 (below_size (by repeat (first | (with_reducible first | exact HB.out | apply bA_ | apply bN_ | apply bD_) | exact HB.out)))); have n4_ := Aside0.mk (below_step (by repeat (first | (with_reducible first | exact HB.out | apply bA_ | apply bN_ | apply bD_) | exact HB.out)) hb); clear HO214; clear HB; have HO214 := n0_; have HO217 := n1_; have HO220 := n2_; have HO223 := n3_; have HB := n4_; clear n0_ n1_ n2_ n3_ n4_; (try clear hb); (try clear hb2); (try clear hk); (try clear hi); (try clear ho0); (try clear ho1); (try clear ho2)) | ((with_reducible refine gate_dst (N := 4) rfl ?_); refine box_event ?hg (N := 4) ?hd (cs := #[.slice none 0 0, .slice none 0 0, .slice none 0 0]) (t := 35) ?hr ?_; (case hd => rfl); (case hg => rfl); (case hr => first | (go_simp; done) | (go_simp; rfl)); intro gb225 hg w12 hbox hb; have n0_ := Aside0.mk (Kd.R_below (by (with_reducible repeat (first | apply rA_ | apply rN_ | apply rD_)); exact HO214.out) hb); have n1_ := Aside0.mk (Kd.R_below (by (with_reducible repeat (first | apply rA_ | apply rN_ | apply rD_)); exact HO217.out) hb); have n2_ := Aside0.mk (Kd.R_below (by (with_reducible repeat (first | apply rA_ | apply rN_ | apply rD_)); exact HO220.out) hb); have n3_ := Aside0.mk (Kd.R_below (by (with_reducible repeat (first | apply rA_ | apply rN_ | apply rD_)); exact HO223.out) hb); have n4_ := Aside0.mk (below_step (by repeat (first | (with_reducible first | exact HB.out | apply bA_ | apply bN_ | apply bD_) | exact HB.out)) hb); have n5_ := Aside0.mk (hbox); have n6_ := Aside0.mk ((by rw [hg]; exact (below_size (by repeat (first | (with_reducible first | exact HB.out | apply bA_ | apply bN_ | apply bD_) | exact HB.out))) : w.heap.size ≤ gb225)); have n7_ := Aside0.mk ((by rw [hg]; exact (below_size (by repeat (first | (with_reducible first | exact HB.out | apply bA_ | apply bN_ | apply bD_) | exact HB.out))) : w.heap.size ≤ gb225)); clear HO214; clear HO217; clear HO220; clear HO223; clear HB; have HO214 := n0_; have HO217 := n1_; have HO220 := n2_; have HO223 := n3_; have HB := n4_; have BK225 := n5_; have GW225 := n6_; have GE225 := n7_; clear n0_ n1_ n2_ n3_ n4_ n5_ n6_ n7_; clear hb hbox hg; obtain ⟨Ao13, co13, eo13⟩ := Kd.R_slice HO217.out; subst eo13; have hcz14_0 : w12.cell? ⟨gb225, 0, none⟩ = some (.slice none 0 0) := (blk_cell BK225.out 0).trans rfl; have hcz14_1 : w12.cell? ⟨gb225, 1, none⟩ = some (.slice none 0 0) := (blk_cell BK225.out 1).trans rfl; have hcz14_2 : w12.cell? ⟨gb225, 2, none⟩ = some (.slice none 0 0) := (blk_cell BK225.out 2).trans rfl; have hfz14_0 := blk_frozen BK225.out 0; have hfz14_1 := blk_frozen BK225.out 1; have hfz14_2 := blk_frozen BK225.out 2; obtain ⟨Ao15, co15, eo15⟩ := Kd.R_slice HO220.out; subst eo15; obtain ⟨Ao16, co16, eo16⟩ := Kd.R_slice HO223.out; subst eo16) | ((with_reducible refine gate_callee (f := 21) rfl ?_); refine goesL_ (some 26) rfl rfl Try.func21 (by kernel_rfl) rfl #[.slice A0 l0.length c0] rfl (by (try simp only [List.map_toArray, List.map_cons, List.map_nil]); first | done | rfl | (simp only [List.length_drop, List.length_take]; rfl)) ?_; (with_reducible refine (laws_toStringS.calls k _ _ l0 t226 _ ?side1 ?side2 A6.out).mono ?_); (case side1 => exact Kd.C_below HR0.out (by repeat (first | (with_reducible first | exact HB.out | apply bA_ | apply bN_ | apply bD_ | refine bS_ ?_ GE225.out) | exact HB.out))); (case side2 => exact HC0.out); rintro e w17 ⟨v227, rfl, ho0, hb⟩; refine ⟨_, rfl, ?_⟩; have n0_ := Aside0.mk (Kd.R_elder' (by (with_reducible repeat (first | apply rA_ | apply rN_ | apply rD_)); exact (Kd.R_mono (Kd.R_far (p := ⟨gb225, 2, none⟩) (Kd.R_far (p := ⟨gb225, 1, none⟩) (Kd.R_far (p := ⟨gb225, 0, none⟩) (Kd.R_types HO214.out BK225.out (by decide)) (fun _ hk => hk.2) (.slice Ao13 t215.length co13)) (fun _ hk => hk.2) (.slice Ao15 t218.length co15)) (fun _ hk => hk.2) (.slice Ao16 t221.length co16)) (fun _ h_ => h_.1))) (Kd.R_base ho0) hb); have n1_ := Aside0.mk (Kd.R_elder' (by (with_reducible repeat (first | apply rA_ | apply rN_ | apply rD_)); exact (Kd.R_mono (Kd.R_far (p := ⟨gb225, 2, none⟩) (Kd.R_far (p := ⟨gb225, 1, none⟩) (Kd.R_far (p := ⟨gb225, 0, none⟩) (Kd.R_types HO217.out BK225.out (by decide)) (fun _ hk => hk.2) (.slice Ao13 t215.length co13)) (fun _ hk => hk.2) (.slice Ao15 t218.length co15)) (fun _ hk => hk.2) (.slice Ao16 t221.length co16)) (fun _ h_ => h_.1))) (Kd.R_base ho0) hb); have n2_ := Aside0.mk (Kd.R_below (by (with_reducible repeat (first | apply rA_ | apply rN_ | apply rD_)); exact (Kd.R_mono (Kd.R_far (p := ⟨gb225, 2, none⟩) (Kd.R_far (p := ⟨gb225, 1, none⟩) (Kd.R_far (p := ⟨gb225, 0, none⟩) (Kd.R_types HO220.out BK225.out (by decide)) (fun _ hk => hk.2) (.slice Ao13 t215.length co13)) (fun _ hk => hk.2) (.slice Ao15 t218.length co15)) (fun _ hk => hk.2) (.slice Ao16 t221.length co16)) (fun _ h_ => h_.1))) hb); have n3_ := Aside0.mk (Kd.R_below (by (with_reducible repeat (first | apply rA_ | apply rN_ | apply rD_)); exact (Kd.R_mono (Kd.R_far (p := ⟨gb225, 2, none⟩) (Kd.R_far (p := ⟨gb225, 1, none⟩) (Kd.R_far (p := ⟨gb225, 0, none⟩) (Kd.R_types HO223.out BK225.out (by decide)) (fun _ hk => hk.2) (.slice Ao13 t215.length co13)) (fun _ hk => hk.2) (.slice Ao15 t218.length co15)) (fun _ hk => hk.2) (.slice Ao16 t221.length co16)) (fun _ h_ => h_.1))) hb); have n4_ := Aside0.mk (Kd.R_lower (Kd.R_new' (Kd.R_new' ho0 (Kd.R_lt (by (with_reducible repeat (first | apply rA_ | apply rN_ | apply rD_)); exact (Kd.R_mono (Kd.R_far (p := ⟨gb225, 2, none⟩) (Kd.R_far (p := ⟨gb225, 1, none⟩) (Kd.R_far (p := ⟨gb225, 0, none⟩) (Kd.R_types HO214.out BK225.out (by decide)) (fun _ hk => hk.2) (.slice Ao13 t215.length co13)) (fun _ hk => hk.2) (.slice Ao15 t218.length co15)) (fun _ hk => hk.2) (.slice Ao16 t221.length co16)) (fun _ h_ => h_.1))))) (Kd.R_lt (by (with_reducible repeat (first | apply rA_ | apply rN_ | apply rD_)); exact (Kd.R_mono (Kd.R_far (p := ⟨gb225, 2, none⟩) (Kd.R_far (p := ⟨gb225, 1, none⟩) (Kd.R_far (p := ⟨gb225, 0, none⟩) (Kd.R_types HO217.out BK225.out (by decide)) (fun _ hk => hk.2) (.slice Ao13 t215.length co13)) (fun _ hk => hk.2) (.slice Ao15 t218.length co15)) (fun _ hk => hk.2) (.slice Ao16 t221.length co16)) (fun _ h_ => h_.1))))) (below_size (by repeat (first | (with_reducible first | exact HB.out | apply bA_ | apply bN_ | apply bD_ | refine bS_ ?_ GE225.out) | exact HB.out)))); have n5_ := Aside0.mk (blk_below (g := gb225) (o := .cells #[.slice Ao13 t215.length co13, .slice Ao15 t218.length co15, .slice Ao16 t221.length co16] 35 (0, 0)) (by (with_reducible repeat (first | apply lN_ | apply lD_ | apply lA_)); refine blk_put (cs := #[.slice Ao13 t215.length co13, .slice Ao15 t218.length co15, .slice none 0 0]) ?_ 2 _ rfl; (with_reducible repeat (first | apply lN_ | apply lD_ | apply lA_)); refine blk_put (cs := #[.slice Ao13 t215.length co13, .slice none 0 0, .slice none 0 0]) ?_ 1 _ rfl; (with_reducible repeat (first | apply lN_ | apply lD_ | apply lA_)); refine blk_put (cs := #[.slice none 0 0, .slice none 0 0, .slice none 0 0]) ?_ 0 _ rfl; (with_reducible repeat (first | apply lN_ | apply lD_ | apply lA_)); exact BK225.out) hb); have n6_ := Aside0.mk (below_step (by repeat (first | (with_reducible first | exact HB.out | apply bA_ | apply bN_ | apply bD_ | refine bS_ ?_ GE225.out) | exact HB.out)) hb); clear HO214; clear HO217; clear HO220; clear HO223; clear BK225; clear HB; have HO214 := n0_; have HO217 := n1_; have HO220 := n2_; have HO223 := n3_; have HO228 := n4_; have BK225 := n5_; have HB := n6_; clear n0_ n1_ n2_ n3_ n4_ n5_ n6_; (try clear hb); (try clear hb2); (try clear hk); (try clear hi); (try clear ho0); obtain ⟨Ao18, co18, eo18⟩ := Kd.R_slice HO228.out; subst eo18) | ((with_reducible refine gate_callee (f := 22) rfl ?_); refine goesL_ (some 29) rfl rfl Try.func22 (by kernel_rfl) rfl #[.slice Ao18 t226.length co18] rfl (by (try simp only [List.map_toArray, List.map_cons, List.map_nil]); first | done | rfl | (simp only [List.length_drop, List.length_take]; rfl)) ?_; (with_reducible refine (impl_StartDesk.calls k _ _ t226 t229 t232 t235 t238 _ ?side1 ?side2 A7.out).mono ?_); (case side1 => repeat (first | exact (Kd.R_reads' HO228.out).2.2 | (with_reducible first | apply cA_ | apply cN_ | apply cD_))); (case side2 => exact (Kd.R_reads' HO228.out).2.1); rintro e w19 ⟨v230, v233, v236, rfl, ho0, ho1, ho2, hb⟩; refine ⟨_, rfl, ?_⟩; have n0_ := Aside0.mk (Kd.R_elder' (by (with_reducible repeat (first | apply rA_ | apply rN_ | apply rD_)); exact HO214.out) (Kd.R_base ho0) hb); have n1_ := Aside0.mk (Kd.R_elder' (by (with_reducible repeat (first | apply rA_ | apply rN_ | apply rD_)); exact HO217.out) (Kd.R_base ho0) hb); have n2_ := Aside0.mk (Kd.R_mono (Kd.R_told (Kd.R_told (Kd.R_old (by (with_reducible repeat (first | apply rA_ | apply rN_ | apply rD_)); exact HO220.out) hb) (Kd.R_base ho1)) (Kd.R_base ho2)) (fun _ h_ => h_.1)); have n3_ := Aside0.mk (Kd.R_mono (Kd.R_told (Kd.R_told (Kd.R_old (by (with_reducible repeat (first | apply rA_ | apply rN_ | apply rD_)); exact HO223.out) hb) (Kd.R_base ho1)) (Kd.R_base ho2)) (fun _ h_ => h_.1)); have n4_ := Aside0.mk (Kd.R_elder' (by (with_reducible repeat (first | apply rA_ | apply rN_ | apply rD_)); exact HO228.out) (Kd.R_base ho0) hb); have n5_ := Aside0.mk (Kd.R_lower (Kd.R_new' (Kd.R_new' (Kd.R_new' ho0 (Kd.R_lt (by (with_reducible repeat (first | apply rA_ | apply rN_ | apply rD_)); exact HO214.out))) (Kd.R_lt (by (with_reducible repeat (first | apply rA_ | apply rN_ | apply rD_)); exact HO217.out))) (Kd.R_lt (by (with_reducible repeat (first | apply rA_ | apply rN_ | apply rD_)); exact HO228.out))) (below_size (by repeat (first | (with_reducible first | exact HB.out | apply bA_ | apply bN_ | apply bD_ | refine bS_ ?_ GE225.out) | exact HB.out)))); have n6_ := Aside0.mk (Kd.R_lower (Kd.R_new' (Kd.R_new' ho1 (Kd.R_lt (by (with_reducible repeat (first | apply rA_ | apply rN_ | apply rD_)); exact HO220.out))) (Kd.R_lt (by (with_reducible repeat (first | apply rA_ | apply rN_ | apply rD_)); exact HO223.out))) (below_size (by repeat (first | (with_reducible first | exact HB.out | apply bA_ | apply bN_ | apply bD_ | refine bS_ ?_ GE225.out) | exact HB.out)))); have n7_ := Aside0.mk (Kd.R_lower (Kd.R_new' (Kd.R_new' ho2 (Kd.R_lt (by (with_reducible repeat (first | apply rA_ | apply rN_ | apply rD_)); exact HO220.out))) (Kd.R_lt (by (with_reducible repeat (first | apply rA_ | apply rN_ | apply rD_)); exact HO223.out))) (below_size (by repeat (first | (with_reducible first | exact HB.out | apply bA_ | apply bN_ | apply bD_ | refine bS_ ?_ GE225.out) | exact HB.out)))); have n8_ := Aside0.mk (blk_below (g := gb225) (o := .cells #[.slice Ao13 t215.length co13, .slice Ao15 t218.length co15, .slice Ao16 t221.length co16] 35 (0, 0)) (by (with_reducible repeat (first | apply lN_ | apply lD_ | apply lA_)); exact BK225.out) hb); have n9_ := Aside0.mk (below_step (by repeat (first | (with_reducible first | exact HB.out | apply bA_ | apply bN_ | apply bD_ | refine bS_ ?_ GE225.out) | exact HB.out)) hb); clear HO214; clear HO217; clear HO220; clear HO223; clear HO228; clear BK225; clear HB; have HO214 := n0_; have HO217 := n1_; have HO220 := n2_; have HO223 := n3_; have HO228 := n4_; have HO231 := n5_; have HO234 := n6_; have HO237 := n7_; have BK225 := n8_; have HB := n9_; clear n0_ n1_ n2_ n3_ n4_ n5_ n6_ n7_ n8_ n9_; (try clear hb); (try clear hb2); (try clear hk); (try clear hi); (try clear ho0); (try clear ho1); (try clear ho2)) | ((with_reducible refine gate_dst (N := 7) rfl ?_); refine box_event ?hg (N := 7) ?hd (cs := #[.slice none 0 0, .slice none 0 0, .slice none 0 0]) (t := 35) ?hr ?_; (case hd => rfl); (case hg => rfl); (case hr => first | (go_simp; done) | (go_simp; rfl)); intro gb239 hg w20 hbox hb; have n0_ := Aside0.mk (Kd.R_below (by (with_reducible repeat (first | apply rA_ | apply rN_ | apply rD_)); exact HO214.out) hb); have n1_ := Aside0.mk (Kd.R_below (by (with_reducible repeat (first | apply rA_ | apply rN_ | apply rD_)); exact HO217.out) hb); have n2_ := Aside0.mk (Kd.R_below (by (with_reducible repeat (first | apply rA_ | apply rN_ | apply rD_)); exact HO220.out) hb); have n3_ := Aside0.mk (Kd.R_below (by (with_reducible repeat (first | apply rA_ | apply rN_ | apply rD_)); exact HO223.out) hb); have n4_ := Aside0.mk (Kd.R_below (by (with_reducible repeat (first | apply rA_ | apply rN_ | apply rD_)); exact HO228.out) hb); have n5_ := Aside0.mk (Kd.R_below (by (with_reducible repeat (first | apply rA_ | apply rN_ | apply rD_)); exact HO231.out) hb); have n6_ := Aside0.mk (Kd.R_below (by (with_reducible repeat (first | apply rA_ | apply rN_ | apply rD_)); exact HO234.out) hb); have n7_ := Aside0.mk (Kd.R_below (by (with_reducible repeat (first | apply rA_ | apply rN_ | apply rD_)); exact HO237.out) hb); have n8_ := Aside0.mk (blk_below (g := gb225) (o := .cells #[.slice Ao13 t215.length co13, .slice Ao15 t218.length co15, .slice Ao16 t221.length co16] 35 (0, 0)) (by (with_reducible repeat (first | apply lN_ | apply lD_ | apply lA_)); exact BK225.out) hb); have n9_ := Aside0.mk (below_step (by repeat (first | (with_reducible first | exact HB.out | apply bA_ | apply bN_ | apply bD_ | refine bS_ ?_ GE225.out) | exact HB.out)) hb); have n10_ := Aside0.mk (hbox); have n11_ := Aside0.mk ((by rw [hg]; exact (below_size (by repeat (first | (with_reducible first | exact HB.out | apply bA_ | apply bN_ | apply bD_ | refine bS_ ?_ GE225.out) | exact HB.out))) : w.heap.size ≤ gb239)); have n12_ := Aside0.mk ((by rw [hg]; exact (below_size (by repeat (first | (with_reducible first | exact HB.out | apply bA_ | apply bN_ | apply bD_ | refine bS_ ?_ GE225.out) | exact HB.out))) : w.heap.size ≤ gb239)); have n13_ := Aside0.mk ((by rw [hg]; exact Nat.ne_of_lt (blk_lt (g := gb225) (o := .cells #[.slice Ao13 t215.length co13, .slice Ao15 t218.length co15, .slice Ao16 t221.length co16] 35 (0, 0)) (by (with_reducible repeat (first | apply lN_ | apply lD_ | apply lA_)); exact BK225.out)) : gb225 ≠ gb239)); have n14_ := Aside0.mk ((by rw [hg]; exact Nat.ne_of_gt (blk_lt (g := gb225) (o := .cells #[.slice Ao13 t215.length co13, .slice Ao15 t218.length co15, .slice Ao16 t221.length co16] 35 (0, 0)) (by (with_reducible repeat (first | apply lN_ | apply lD_ | apply lA_)); exact BK225.out)) : gb239 ≠ gb225)); clear HO214; clear HO217; clear HO220; clear HO223; clear HO228; clear HO231; clear HO234; clear HO237; clear BK225; clear HB; have HO214 := n0_; have HO217 := n1_; have HO220 := n2_; have HO223 := n3_; have HO228 := n4_; have HO231 := n5_; have HO234 := n6_; have HO237 := n7_; have BK225 := n8_; have HB := n9_; have BK239 := n10_; have GW239 := n11_; have GE239 := n12_; have NB225_239 := n13_; have NB239_225 := n14_; clear n0_ n1_ n2_ n3_ n4_ n5_ n6_ n7_ n8_ n9_ n10_ n11_ n12_ n13_ n14_; clear hb hbox hg; obtain ⟨Ao21, co21, eo21⟩ := Kd.R_slice HO231.out; subst eo21; have hnb22 := NB239_225.out; have hnc22 := NB225_239.out; have hcz23_0 : w20.cell? ⟨gb239, 0, none⟩ = some (.slice none 0 0) := (blk_cell BK239.out 0).trans rfl; have hcz23_1 : w20.cell? ⟨gb239, 1, none⟩ = some (.slice none 0 0) := (blk_cell BK239.out 1).trans rfl; have hcz23_2 : w20.cell? ⟨gb239, 2, none⟩ = some (.slice none 0 0) := (blk_cell BK239.out 2).trans rfl; have hfz23_0 := blk_frozen BK239.out 0; have hfz23_1 := blk_frozen BK239.out 1; have hfz23_2 := blk_frozen BK239.out 2; obtain ⟨Ao24, co24, eo24⟩ := Kd.R_slice HO234.out; subst eo24; obtain ⟨Ao25, co25, eo25⟩ := Kd.R_slice HO237.out; subst eo25))
  (try simp only [Act.put, List.setIfInBounds_toArray, List.set_cons_zero, List.set_cons_succ])
  go_cut [40] (fun v40 wc => ∃ (kq : Nat) (x40_7 : Bool), v40 = .bool x40_7 ∧ Aside0 (laws_FnExactStartDesk.j0 kq l0 t224 t226 t238 x40_7 t215 t218 t221 t229 t232 t235 = some r) ∧ Aside0 (kq ≤ k) ∧ Aside0 (Kd.R Kd.string 9 wc w.heap.size (fun k_ => some k_ ≠ ((.slice Ao13 t215.length co13) : Value).ownBlock ∧ some k_ ≠ ((.slice Ao21 t229.length co21) : Value).ownBlock) (.slice Ao18 t226.length co18) t226) ∧ Aside0 (Kd.R Kd.string 9 wc w.heap.size (fun k_ => some k_ ≠ ((.slice Ao18 t226.length co18) : Value).ownBlock ∧ some k_ ≠ ((.slice Ao21 t229.length co21) : Value).ownBlock) (.slice Ao13 t215.length co13) t215) ∧ Aside0 (Kd.R k25 25 wc w.heap.size (fun k_ => some k_ ≠ ((.slice Ao16 t221.length co16) : Value).ownBlock ∧ some k_ ≠ ((.slice Ao24 t232.length co24) : Value).ownBlock ∧ some k_ ≠ ((.slice Ao25 t235.length co25) : Value).ownBlock) (.slice Ao15 t218.length co15) t218) ∧ Aside0 (Kd.R k25 25 wc w.heap.size (fun k_ => some k_ ≠ ((.slice Ao15 t218.length co15) : Value).ownBlock ∧ some k_ ≠ ((.slice Ao24 t232.length co24) : Value).ownBlock ∧ some k_ ≠ ((.slice Ao25 t235.length co25) : Value).ownBlock) (.slice Ao16 t221.length co16) t221) ∧ Aside0 (Kd.R Kd.string 9 wc w.heap.size (fun k_ => some k_ ≠ ((.slice Ao18 t226.length co18) : Value).ownBlock ∧ some k_ ≠ ((.slice Ao13 t215.length co13) : Value).ownBlock) (.slice Ao21 t229.length co21) t229) ∧ Aside0 (Kd.R k25 25 wc w.heap.size (fun k_ => some k_ ≠ ((.slice Ao15 t218.length co15) : Value).ownBlock ∧ some k_ ≠ ((.slice Ao16 t221.length co16) : Value).ownBlock ∧ some k_ ≠ ((.slice Ao25 t235.length co25) : Value).ownBlock) (.slice Ao24 t232.length co24) t232) ∧ Aside0 (Kd.R k25 25 wc w.heap.size (fun k_ => some k_ ≠ ((.slice Ao15 t218.length co15) : Value).ownBlock ∧ some k_ ≠ ((.slice Ao16 t221.length co16) : Value).ownBlock ∧ some k_ ≠ ((.slice Ao24 t232.length co24) : Value).ownBlock) (.slice Ao25 t235.length co25) t235) ∧ Aside0 (wc.heap[gb225]? = some (.cells #[(.slice Ao13 t215.length co13), (.slice Ao15 t218.length co15), (.slice Ao16 t221.length co16)] 35 (0, 0))) ∧ Aside0 (wc.heap[gb239]? = some (.cells #[(.slice Ao21 t229.length co21), (.slice Ao24 t232.length co24), (.slice Ao25 t235.length co25)] 35 (0, 0))) ∧ Aside0 (Below w.heap.size w wc))
  case first =>
   have H := HC8.out
   clear HC8
   replace H := Option.bind_eq_some_iff.mp H
   obtain ⟨t240, A260, H⟩ := H
   replace H : (if t240 = true then (laws_FnExactStartDesk.j0 k l0 t224 t226 t238 (t238 != t224) t215 t218 t221 t229 t232 t235) else (laws_FnExactStartDesk.j0 k l0 t224 t226 t238 true t215 t218 t221 t229 t232 t235)) = some r := H
   have A26 := Aside0.mk A260
   clear A260
   by_cases c27 : t240 = true
   ·subst c27
    have H1 : (laws_FnExactStartDesk.j0 k l0 t224 t226 t238 (t238 != t224) t215 t218 t221 t229 t232 t235) = some r := by rw [if_pos rfl] at H; exact H
    clear H
    have H := H1
    clear H1
    have H' := Aside0.mk H
    clear H
    have hnb28 := NB239_225.out
    have hnc28 := NB225_239.out
    have hcz29_0 : w20.cell? ⟨gb239, 0, none⟩ = some (.slice none 0 0) := (blk_cell BK239.out 0).trans rfl
    have hcz29_1 : w20.cell? ⟨gb239, 1, none⟩ = some (.slice none 0 0) := (blk_cell BK239.out 1).trans rfl
    have hcz29_2 : w20.cell? ⟨gb239, 2, none⟩ = some (.slice none 0 0) := (blk_cell BK239.out 2).trans rfl
    have hfz29_0 := blk_frozen BK239.out 0
    have hfz29_1 := blk_frozen BK239.out 1
    have hfz29_2 := blk_frozen BK239.out 2
    have hcz30_0 : w20.cell? ⟨gb225, 0, none⟩ = some (.slice Ao13 t215.length co13) := (blk_cell BK225.out 0).trans rfl
    have hcz30_1 : w20.cell? ⟨gb225, 1, none⟩ = some (.slice Ao15 t218.length co15) := (blk_cell BK225.out 1).trans rfl
    have hcz30_2 : w20.cell? ⟨gb225, 2, none⟩ = some (.slice Ao16 t221.length co16) := (blk_cell BK225.out 2).trans rfl
    have hfz30_0 := blk_frozen BK225.out 0
    have hfz30_1 := blk_frozen BK225.out 1
    have hfz30_2 := blk_frozen BK225.out 2
    go_wp2_with (first | ((with_reducible refine gate_callee (f := 23) rfl ?_); refine goesL_ (some 34) rfl rfl Try.func23 (by kernel_rfl) rfl #[.agg #[.slice Ao21 t229.length co21, .slice Ao24 t232.length co24, .slice Ao25 t235.length co25], .agg #[.slice Ao13 t215.length co13, .slice Ao15 t218.length co15, .slice Ao16 t221.length co16]] rfl (by (try simp only [List.map_toArray, List.map_cons, List.map_nil]); first | done | rfl | (simp only [List.length_drop, List.length_take]; rfl)) ?_; (with_reducible refine (laws_eqDesk.calls k _ _ t229 _ _ t232 _ _ t235 _ _ t215 _ _ t218 _ _ t221 true _ ?side1 ?side2 ?side3 ?side4 ?side5 ?side6 ?side7 ?side8 ?side9 ?side10 ?side11 ?side12 A26.out).mono ?_); (case side1 => refine (Kd.R_reads' (e := 9) (base := w.heap.size) (ok := fun k_ => (((True ∧ some k_ ≠ (.slice Ao10 t212.length co10 : Value).ownBlock) ∧ some k_ ≠ (.slice Ao13 t215.length co13 : Value).ownBlock) ∧ some k_ ≠ (.slice Ao18 t226.length co18 : Value).ownBlock)) (n := t229.length) (c := co21) ?_).2.2; exact (by (with_reducible repeat (first | apply rA_ | apply rN_ | apply rD_)); exact (Kd.R_mono (Kd.R_far (p := ⟨gb239, 2, none⟩) (Kd.R_far (p := ⟨gb239, 1, none⟩) (Kd.R_far (p := ⟨gb239, 0, none⟩) (Kd.R_types HO231.out BK239.out (by decide)) (fun _ hk => hk.2) (.slice Ao21 t229.length co21)) (fun _ hk => hk.2) (.slice Ao24 t232.length co24)) (fun _ hk => hk.2) (.slice Ao25 t235.length co25)) (fun _ h_ => h_.1)))); (case side2 => exact (Kd.R_reads' HO231.out).2.1); (case side3 => refine (Kd.R_reads' (e := 25) (base := w.heap.size) (ok := fun k_ => ((some k_ ≠ (.slice Ao25 t235.length co25 : Value).ownBlock ∧ some k_ ≠ (.slice Ao15 t218.length co15 : Value).ownBlock) ∧ some k_ ≠ (.slice Ao16 t221.length co16 : Value).ownBlock)) (n := t232.length) (c := co24) ?_).2.2; exact (by (with_reducible repeat (first | apply rA_ | apply rN_ | apply rD_)); exact (Kd.R_mono (Kd.R_far (p := ⟨gb239, 2, none⟩) (Kd.R_far (p := ⟨gb239, 1, none⟩) (Kd.R_far (p := ⟨gb239, 0, none⟩) (Kd.R_types HO234.out BK239.out (by decide)) (fun _ hk => hk.2) (.slice Ao21 t229.length co21)) (fun _ hk => hk.2) (.slice Ao24 t232.length co24)) (fun _ hk => hk.2) (.slice Ao25 t235.length co25)) (fun _ h_ => h_.1)))); (case side4 => exact (Kd.R_reads' HO234.out).2.1); (case side5 => refine (Kd.R_reads' (e := 25) (base := w.heap.size) (ok := fun k_ => ((some k_ ≠ (.slice Ao24 t232.length co24 : Value).ownBlock ∧ some k_ ≠ (.slice Ao15 t218.length co15 : Value).ownBlock) ∧ some k_ ≠ (.slice Ao16 t221.length co16 : Value).ownBlock)) (n := t235.length) (c := co25) ?_).2.2; exact (by (with_reducible repeat (first | apply rA_ | apply rN_ | apply rD_)); exact (Kd.R_mono (Kd.R_far (p := ⟨gb239, 2, none⟩) (Kd.R_far (p := ⟨gb239, 1, none⟩) (Kd.R_far (p := ⟨gb239, 0, none⟩) (Kd.R_types HO237.out BK239.out (by decide)) (fun _ hk => hk.2) (.slice Ao21 t229.length co21)) (fun _ hk => hk.2) (.slice Ao24 t232.length co24)) (fun _ hk => hk.2) (.slice Ao25 t235.length co25)) (fun _ h_ => h_.1)))); (case side6 => exact (Kd.R_reads' HO237.out).2.1); (case side7 => refine (Kd.R_reads' (e := 9) (base := w.heap.size) (ok := fun k_ => (((True ∧ some k_ ≠ (.slice Ao10 t212.length co10 : Value).ownBlock) ∧ some k_ ≠ (.slice Ao18 t226.length co18 : Value).ownBlock) ∧ some k_ ≠ (.slice Ao21 t229.length co21 : Value).ownBlock)) (n := t215.length) (c := co13) ?_).2.2; exact (by (with_reducible repeat (first | apply rA_ | apply rN_ | apply rD_)); exact (Kd.R_mono (Kd.R_far (p := ⟨gb239, 2, none⟩) (Kd.R_far (p := ⟨gb239, 1, none⟩) (Kd.R_far (p := ⟨gb239, 0, none⟩) (Kd.R_types HO217.out BK239.out (by decide)) (fun _ hk => hk.2) (.slice Ao21 t229.length co21)) (fun _ hk => hk.2) (.slice Ao24 t232.length co24)) (fun _ hk => hk.2) (.slice Ao25 t235.length co25)) (fun _ h_ => h_.1)))); (case side8 => exact (Kd.R_reads' HO217.out).2.1); (case side9 => refine (Kd.R_reads' (e := 25) (base := w.heap.size) (ok := fun k_ => ((some k_ ≠ (.slice Ao16 t221.length co16 : Value).ownBlock ∧ some k_ ≠ (.slice Ao24 t232.length co24 : Value).ownBlock) ∧ some k_ ≠ (.slice Ao25 t235.length co25 : Value).ownBlock)) (n := t218.length) (c := co15) ?_).2.2; exact (by (with_reducible repeat (first | apply rA_ | apply rN_ | apply rD_)); exact (Kd.R_mono (Kd.R_far (p := ⟨gb239, 2, none⟩) (Kd.R_far (p := ⟨gb239, 1, none⟩) (Kd.R_far (p := ⟨gb239, 0, none⟩) (Kd.R_types HO220.out BK239.out (by decide)) (fun _ hk => hk.2) (.slice Ao21 t229.length co21)) (fun _ hk => hk.2) (.slice Ao24 t232.length co24)) (fun _ hk => hk.2) (.slice Ao25 t235.length co25)) (fun _ h_ => h_.1)))); (case side10 => exact (Kd.R_reads' HO220.out).2.1); (case side11 => refine (Kd.R_reads' (e := 25) (base := w.heap.size) (ok := fun k_ => ((some k_ ≠ (.slice Ao15 t218.length co15 : Value).ownBlock ∧ some k_ ≠ (.slice Ao24 t232.length co24 : Value).ownBlock) ∧ some k_ ≠ (.slice Ao25 t235.length co25 : Value).ownBlock)) (n := t221.length) (c := co16) ?_).2.2; exact (by (with_reducible repeat (first | apply rA_ | apply rN_ | apply rD_)); exact (Kd.R_mono (Kd.R_far (p := ⟨gb239, 2, none⟩) (Kd.R_far (p := ⟨gb239, 1, none⟩) (Kd.R_far (p := ⟨gb239, 0, none⟩) (Kd.R_types HO223.out BK239.out (by decide)) (fun _ hk => hk.2) (.slice Ao21 t229.length co21)) (fun _ hk => hk.2) (.slice Ao24 t232.length co24)) (fun _ hk => hk.2) (.slice Ao25 t235.length co25)) (fun _ h_ => h_.1)))); (case side12 => exact (Kd.R_reads' HO223.out).2.1); rintro e w31 ⟨rfl, hb⟩; refine ⟨_, rfl, ?_⟩; have n0_ := Aside0.mk (Kd.R_below (by (with_reducible repeat (first | apply rA_ | apply rN_ | apply rD_)); exact (Kd.R_mono (Kd.R_far (p := ⟨gb239, 2, none⟩) (Kd.R_far (p := ⟨gb239, 1, none⟩) (Kd.R_far (p := ⟨gb239, 0, none⟩) (Kd.R_types HO214.out BK239.out (by decide)) (fun _ hk => hk.2) (.slice Ao21 t229.length co21)) (fun _ hk => hk.2) (.slice Ao24 t232.length co24)) (fun _ hk => hk.2) (.slice Ao25 t235.length co25)) (fun _ h_ => h_.1))) hb); have n1_ := Aside0.mk (Kd.R_below (by (with_reducible repeat (first | apply rA_ | apply rN_ | apply rD_)); exact (Kd.R_mono (Kd.R_far (p := ⟨gb239, 2, none⟩) (Kd.R_far (p := ⟨gb239, 1, none⟩) (Kd.R_far (p := ⟨gb239, 0, none⟩) (Kd.R_types HO217.out BK239.out (by decide)) (fun _ hk => hk.2) (.slice Ao21 t229.length co21)) (fun _ hk => hk.2) (.slice Ao24 t232.length co24)) (fun _ hk => hk.2) (.slice Ao25 t235.length co25)) (fun _ h_ => h_.1))) hb); have n2_ := Aside0.mk (Kd.R_below (by (with_reducible repeat (first | apply rA_ | apply rN_ | apply rD_)); exact (Kd.R_mono (Kd.R_far (p := ⟨gb239, 2, none⟩) (Kd.R_far (p := ⟨gb239, 1, none⟩) (Kd.R_far (p := ⟨gb239, 0, none⟩) (Kd.R_types HO220.out BK239.out (by decide)) (fun _ hk => hk.2) (.slice Ao21 t229.length co21)) (fun _ hk => hk.2) (.slice Ao24 t232.length co24)) (fun _ hk => hk.2) (.slice Ao25 t235.length co25)) (fun _ h_ => h_.1))) hb); have n3_ := Aside0.mk (Kd.R_below (by (with_reducible repeat (first | apply rA_ | apply rN_ | apply rD_)); exact (Kd.R_mono (Kd.R_far (p := ⟨gb239, 2, none⟩) (Kd.R_far (p := ⟨gb239, 1, none⟩) (Kd.R_far (p := ⟨gb239, 0, none⟩) (Kd.R_types HO223.out BK239.out (by decide)) (fun _ hk => hk.2) (.slice Ao21 t229.length co21)) (fun _ hk => hk.2) (.slice Ao24 t232.length co24)) (fun _ hk => hk.2) (.slice Ao25 t235.length co25)) (fun _ h_ => h_.1))) hb); have n4_ := Aside0.mk (Kd.R_below (by (with_reducible repeat (first | apply rA_ | apply rN_ | apply rD_)); exact (Kd.R_mono (Kd.R_far (p := ⟨gb239, 2, none⟩) (Kd.R_far (p := ⟨gb239, 1, none⟩) (Kd.R_far (p := ⟨gb239, 0, none⟩) (Kd.R_types HO228.out BK239.out (by decide)) (fun _ hk => hk.2) (.slice Ao21 t229.length co21)) (fun _ hk => hk.2) (.slice Ao24 t232.length co24)) (fun _ hk => hk.2) (.slice Ao25 t235.length co25)) (fun _ h_ => h_.1))) hb); have n5_ := Aside0.mk (Kd.R_below (by (with_reducible repeat (first | apply rA_ | apply rN_ | apply rD_)); exact (Kd.R_mono (Kd.R_far (p := ⟨gb239, 2, none⟩) (Kd.R_far (p := ⟨gb239, 1, none⟩) (Kd.R_far (p := ⟨gb239, 0, none⟩) (Kd.R_types HO231.out BK239.out (by decide)) (fun _ hk => hk.2) (.slice Ao21 t229.length co21)) (fun _ hk => hk.2) (.slice Ao24 t232.length co24)) (fun _ hk => hk.2) (.slice Ao25 t235.length co25)) (fun _ h_ => h_.1))) hb); have n6_ := Aside0.mk (Kd.R_below (by (with_reducible repeat (first | apply rA_ | apply rN_ | apply rD_)); exact (Kd.R_mono (Kd.R_far (p := ⟨gb239, 2, none⟩) (Kd.R_far (p := ⟨gb239, 1, none⟩) (Kd.R_far (p := ⟨gb239, 0, none⟩) (Kd.R_types HO234.out BK239.out (by decide)) (fun _ hk => hk.2) (.slice Ao21 t229.length co21)) (fun _ hk => hk.2) (.slice Ao24 t232.length co24)) (fun _ hk => hk.2) (.slice Ao25 t235.length co25)) (fun _ h_ => h_.1))) hb); have n7_ := Aside0.mk (Kd.R_below (by (with_reducible repeat (first | apply rA_ | apply rN_ | apply rD_)); exact (Kd.R_mono (Kd.R_far (p := ⟨gb239, 2, none⟩) (Kd.R_far (p := ⟨gb239, 1, none⟩) (Kd.R_far (p := ⟨gb239, 0, none⟩) (Kd.R_types HO237.out BK239.out (by decide)) (fun _ hk => hk.2) (.slice Ao21 t229.length co21)) (fun _ hk => hk.2) (.slice Ao24 t232.length co24)) (fun _ hk => hk.2) (.slice Ao25 t235.length co25)) (fun _ h_ => h_.1))) hb); have n8_ := Aside0.mk (blk_below (g := gb225) (o := .cells #[.slice Ao13 t215.length co13, .slice Ao15 t218.length co15, .slice Ao16 t221.length co16] 35 (0, 0)) (by (with_reducible repeat (first | apply lN_ | apply lD_ | apply lA_)); refine blk_far ?_ NB225_239.out _; (with_reducible repeat (first | apply lN_ | apply lD_ | apply lA_)); refine blk_far ?_ NB225_239.out _; (with_reducible repeat (first | apply lN_ | apply lD_ | apply lA_)); refine blk_far ?_ NB225_239.out _; (with_reducible repeat (first | apply lN_ | apply lD_ | apply lA_)); exact BK225.out) hb); have n9_ := Aside0.mk (blk_below (g := gb239) (o := .cells #[.slice Ao21 t229.length co21, .slice Ao24 t232.length co24, .slice Ao25 t235.length co25] 35 (0, 0)) (by (with_reducible repeat (first | apply lN_ | apply lD_ | apply lA_)); refine blk_put (cs := #[.slice Ao21 t229.length co21, .slice Ao24 t232.length co24, .slice none 0 0]) ?_ 2 _ rfl; (with_reducible repeat (first | apply lN_ | apply lD_ | apply lA_)); refine blk_put (cs := #[.slice Ao21 t229.length co21, .slice none 0 0, .slice none 0 0]) ?_ 1 _ rfl; (with_reducible repeat (first | apply lN_ | apply lD_ | apply lA_)); refine blk_put (cs := #[.slice none 0 0, .slice none 0 0, .slice none 0 0]) ?_ 0 _ rfl; (with_reducible repeat (first | apply lN_ | apply lD_ | apply lA_)); exact BK239.out) hb); have n10_ := Aside0.mk (below_step (by repeat (first | (with_reducible first | exact HB.out | apply bA_ | apply bN_ | apply bD_ | refine bS_ ?_ GE225.out | refine bS_ ?_ GE239.out) | exact HB.out)) hb); clear HO214; clear HO217; clear HO220; clear HO223; clear HO228; clear HO231; clear HO234; clear HO237; clear BK225; clear BK239; clear HB; have HO214 := n0_; have HO217 := n1_; have HO220 := n2_; have HO223 := n3_; have HO228 := n4_; have HO231 := n5_; have HO234 := n6_; have HO237 := n7_; have BK225 := n8_; have BK239 := n9_; have HB := n10_; clear n0_ n1_ n2_ n3_ n4_ n5_ n6_ n7_ n8_ n9_ n10_; (try clear hb); (try clear hb2); (try clear hk); (try clear hi)))
    go_meet
    case rel => exact ⟨_, ((t238 != t224)), (by first | rfl | (simp; done) | (simp [*]; done)), H', ⟨by first | omega | exact Nat.le_refl _⟩, ⟨by (with_reducible repeat (first | apply rA_ | apply rN_ | apply rD_)); exact Kd.R_mono HO228.out (fun _ hk => ⟨hk.1.2, hk.2⟩)⟩, ⟨by (with_reducible repeat (first | apply rA_ | apply rN_ | apply rD_)); exact Kd.R_mono HO217.out (fun _ hk => ⟨hk.1.2, hk.2⟩)⟩, ⟨by (with_reducible repeat (first | apply rA_ | apply rN_ | apply rD_)); exact Kd.R_mono HO220.out (fun _ hk => ⟨hk.1.1, ⟨hk.1.2, hk.2⟩⟩)⟩, ⟨by (with_reducible repeat (first | apply rA_ | apply rN_ | apply rD_)); exact Kd.R_mono HO223.out (fun _ hk => ⟨hk.1.1, ⟨hk.1.2, hk.2⟩⟩)⟩, ⟨by (with_reducible repeat (first | apply rA_ | apply rN_ | apply rD_)); exact Kd.R_mono HO231.out (fun _ hk => ⟨hk.2, hk.1.2⟩)⟩, ⟨by (with_reducible repeat (first | apply rA_ | apply rN_ | apply rD_)); exact Kd.R_mono HO234.out (fun _ hk => ⟨hk.1.2, ⟨hk.2, hk.1.1⟩⟩)⟩, ⟨by (with_reducible repeat (first | apply rA_ | apply rN_ | apply rD_)); exact Kd.R_mono HO237.out (fun _ hk => ⟨hk.1.2, ⟨hk.2, hk.1.1⟩⟩)⟩, ⟨by (with_reducible repeat (first | apply lN_ | apply lD_ | apply lA_)); exact BK225.out⟩, ⟨by (with_reducible repeat (first | apply lN_ | apply lD_ | apply lA_)); exact BK239.out⟩, ⟨by repeat (first | (with_reducible first | exact HB.out | apply bA_ | apply bN_ | apply bD_ | refine bS_ ?_ GE225.out | refine bS_ ?_ GE239.out) | exact HB.out)⟩⟩
   ·replace c27 := Bool.eq_false_iff.mpr c27
    subst c27
    have H1 : (laws_FnExactStartDesk.j0 k l0 t224 t226 t238 true t215 t218 t221 t229 t232 t235) = some r := by rw [if_neg (show ¬ (false = true) by decide)] at H; exact H
    clear H
    have H := H1
    clear H1
    have H' := Aside0.mk H
    clear H
    have hnb32 := NB239_225.out
    have hnc32 := NB225_239.out
    have hcz33_0 : w20.cell? ⟨gb239, 0, none⟩ = some (.slice none 0 0) := (blk_cell BK239.out 0).trans rfl
    have hcz33_1 : w20.cell? ⟨gb239, 1, none⟩ = some (.slice none 0 0) := (blk_cell BK239.out 1).trans rfl
    have hcz33_2 : w20.cell? ⟨gb239, 2, none⟩ = some (.slice none 0 0) := (blk_cell BK239.out 2).trans rfl
    have hfz33_0 := blk_frozen BK239.out 0
    have hfz33_1 := blk_frozen BK239.out 1
    have hfz33_2 := blk_frozen BK239.out 2
    have hcz34_0 : w20.cell? ⟨gb225, 0, none⟩ = some (.slice Ao13 t215.length co13) := (blk_cell BK225.out 0).trans rfl
    have hcz34_1 : w20.cell? ⟨gb225, 1, none⟩ = some (.slice Ao15 t218.length co15) := (blk_cell BK225.out 1).trans rfl
    have hcz34_2 : w20.cell? ⟨gb225, 2, none⟩ = some (.slice Ao16 t221.length co16) := (blk_cell BK225.out 2).trans rfl
    have hfz34_0 := blk_frozen BK225.out 0
    have hfz34_1 := blk_frozen BK225.out 1
    have hfz34_2 := blk_frozen BK225.out 2
    go_wp2_with (first | ((with_reducible refine gate_callee (f := 23) rfl ?_); refine goesL_ (some 34) rfl rfl Try.func23 (by kernel_rfl) rfl #[.agg #[.slice Ao21 t229.length co21, .slice Ao24 t232.length co24, .slice Ao25 t235.length co25], .agg #[.slice Ao13 t215.length co13, .slice Ao15 t218.length co15, .slice Ao16 t221.length co16]] rfl (by (try simp only [List.map_toArray, List.map_cons, List.map_nil]); first | done | rfl | (simp only [List.length_drop, List.length_take]; rfl)) ?_; (with_reducible refine (laws_eqDesk.calls k _ _ t229 _ _ t232 _ _ t235 _ _ t215 _ _ t218 _ _ t221 false _ ?side1 ?side2 ?side3 ?side4 ?side5 ?side6 ?side7 ?side8 ?side9 ?side10 ?side11 ?side12 A26.out).mono ?_); (case side1 => refine (Kd.R_reads' (e := 9) (base := w.heap.size) (ok := fun k_ => (((True ∧ some k_ ≠ (.slice Ao10 t212.length co10 : Value).ownBlock) ∧ some k_ ≠ (.slice Ao13 t215.length co13 : Value).ownBlock) ∧ some k_ ≠ (.slice Ao18 t226.length co18 : Value).ownBlock)) (n := t229.length) (c := co21) ?_).2.2; exact (by (with_reducible repeat (first | apply rA_ | apply rN_ | apply rD_)); exact (Kd.R_mono (Kd.R_far (p := ⟨gb239, 2, none⟩) (Kd.R_far (p := ⟨gb239, 1, none⟩) (Kd.R_far (p := ⟨gb239, 0, none⟩) (Kd.R_types HO231.out BK239.out (by decide)) (fun _ hk => hk.2) (.slice Ao21 t229.length co21)) (fun _ hk => hk.2) (.slice Ao24 t232.length co24)) (fun _ hk => hk.2) (.slice Ao25 t235.length co25)) (fun _ h_ => h_.1)))); (case side2 => exact (Kd.R_reads' HO231.out).2.1); (case side3 => refine (Kd.R_reads' (e := 25) (base := w.heap.size) (ok := fun k_ => ((some k_ ≠ (.slice Ao25 t235.length co25 : Value).ownBlock ∧ some k_ ≠ (.slice Ao15 t218.length co15 : Value).ownBlock) ∧ some k_ ≠ (.slice Ao16 t221.length co16 : Value).ownBlock)) (n := t232.length) (c := co24) ?_).2.2; exact (by (with_reducible repeat (first | apply rA_ | apply rN_ | apply rD_)); exact (Kd.R_mono (Kd.R_far (p := ⟨gb239, 2, none⟩) (Kd.R_far (p := ⟨gb239, 1, none⟩) (Kd.R_far (p := ⟨gb239, 0, none⟩) (Kd.R_types HO234.out BK239.out (by decide)) (fun _ hk => hk.2) (.slice Ao21 t229.length co21)) (fun _ hk => hk.2) (.slice Ao24 t232.length co24)) (fun _ hk => hk.2) (.slice Ao25 t235.length co25)) (fun _ h_ => h_.1)))); (case side4 => exact (Kd.R_reads' HO234.out).2.1); (case side5 => refine (Kd.R_reads' (e := 25) (base := w.heap.size) (ok := fun k_ => ((some k_ ≠ (.slice Ao24 t232.length co24 : Value).ownBlock ∧ some k_ ≠ (.slice Ao15 t218.length co15 : Value).ownBlock) ∧ some k_ ≠ (.slice Ao16 t221.length co16 : Value).ownBlock)) (n := t235.length) (c := co25) ?_).2.2; exact (by (with_reducible repeat (first | apply rA_ | apply rN_ | apply rD_)); exact (Kd.R_mono (Kd.R_far (p := ⟨gb239, 2, none⟩) (Kd.R_far (p := ⟨gb239, 1, none⟩) (Kd.R_far (p := ⟨gb239, 0, none⟩) (Kd.R_types HO237.out BK239.out (by decide)) (fun _ hk => hk.2) (.slice Ao21 t229.length co21)) (fun _ hk => hk.2) (.slice Ao24 t232.length co24)) (fun _ hk => hk.2) (.slice Ao25 t235.length co25)) (fun _ h_ => h_.1)))); (case side6 => exact (Kd.R_reads' HO237.out).2.1); (case side7 => refine (Kd.R_reads' (e := 9) (base := w.heap.size) (ok := fun k_ => (((True ∧ some k_ ≠ (.slice Ao10 t212.length co10 : Value).ownBlock) ∧ some k_ ≠ (.slice Ao18 t226.length co18 : Value).ownBlock) ∧ some k_ ≠ (.slice Ao21 t229.length co21 : Value).ownBlock)) (n := t215.length) (c := co13) ?_).2.2; exact (by (with_reducible repeat (first | apply rA_ | apply rN_ | apply rD_)); exact (Kd.R_mono (Kd.R_far (p := ⟨gb239, 2, none⟩) (Kd.R_far (p := ⟨gb239, 1, none⟩) (Kd.R_far (p := ⟨gb239, 0, none⟩) (Kd.R_types HO217.out BK239.out (by decide)) (fun _ hk => hk.2) (.slice Ao21 t229.length co21)) (fun _ hk => hk.2) (.slice Ao24 t232.length co24)) (fun _ hk => hk.2) (.slice Ao25 t235.length co25)) (fun _ h_ => h_.1)))); (case side8 => exact (Kd.R_reads' HO217.out).2.1); (case side9 => refine (Kd.R_reads' (e := 25) (base := w.heap.size) (ok := fun k_ => ((some k_ ≠ (.slice Ao16 t221.length co16 : Value).ownBlock ∧ some k_ ≠ (.slice Ao24 t232.length co24 : Value).ownBlock) ∧ some k_ ≠ (.slice Ao25 t235.length co25 : Value).ownBlock)) (n := t218.length) (c := co15) ?_).2.2; exact (by (with_reducible repeat (first | apply rA_ | apply rN_ | apply rD_)); exact (Kd.R_mono (Kd.R_far (p := ⟨gb239, 2, none⟩) (Kd.R_far (p := ⟨gb239, 1, none⟩) (Kd.R_far (p := ⟨gb239, 0, none⟩) (Kd.R_types HO220.out BK239.out (by decide)) (fun _ hk => hk.2) (.slice Ao21 t229.length co21)) (fun _ hk => hk.2) (.slice Ao24 t232.length co24)) (fun _ hk => hk.2) (.slice Ao25 t235.length co25)) (fun _ h_ => h_.1)))); (case side10 => exact (Kd.R_reads' HO220.out).2.1); (case side11 => refine (Kd.R_reads' (e := 25) (base := w.heap.size) (ok := fun k_ => ((some k_ ≠ (.slice Ao15 t218.length co15 : Value).ownBlock ∧ some k_ ≠ (.slice Ao24 t232.length co24 : Value).ownBlock) ∧ some k_ ≠ (.slice Ao25 t235.length co25 : Value).ownBlock)) (n := t221.length) (c := co16) ?_).2.2; exact (by (with_reducible repeat (first | apply rA_ | apply rN_ | apply rD_)); exact (Kd.R_mono (Kd.R_far (p := ⟨gb239, 2, none⟩) (Kd.R_far (p := ⟨gb239, 1, none⟩) (Kd.R_far (p := ⟨gb239, 0, none⟩) (Kd.R_types HO223.out BK239.out (by decide)) (fun _ hk => hk.2) (.slice Ao21 t229.length co21)) (fun _ hk => hk.2) (.slice Ao24 t232.length co24)) (fun _ hk => hk.2) (.slice Ao25 t235.length co25)) (fun _ h_ => h_.1)))); (case side12 => exact (Kd.R_reads' HO223.out).2.1); rintro e w35 ⟨rfl, hb⟩; refine ⟨_, rfl, ?_⟩; have n0_ := Aside0.mk (Kd.R_below (by (with_reducible repeat (first | apply rA_ | apply rN_ | apply rD_)); exact (Kd.R_mono (Kd.R_far (p := ⟨gb239, 2, none⟩) (Kd.R_far (p := ⟨gb239, 1, none⟩) (Kd.R_far (p := ⟨gb239, 0, none⟩) (Kd.R_types HO214.out BK239.out (by decide)) (fun _ hk => hk.2) (.slice Ao21 t229.length co21)) (fun _ hk => hk.2) (.slice Ao24 t232.length co24)) (fun _ hk => hk.2) (.slice Ao25 t235.length co25)) (fun _ h_ => h_.1))) hb); have n1_ := Aside0.mk (Kd.R_below (by (with_reducible repeat (first | apply rA_ | apply rN_ | apply rD_)); exact (Kd.R_mono (Kd.R_far (p := ⟨gb239, 2, none⟩) (Kd.R_far (p := ⟨gb239, 1, none⟩) (Kd.R_far (p := ⟨gb239, 0, none⟩) (Kd.R_types HO217.out BK239.out (by decide)) (fun _ hk => hk.2) (.slice Ao21 t229.length co21)) (fun _ hk => hk.2) (.slice Ao24 t232.length co24)) (fun _ hk => hk.2) (.slice Ao25 t235.length co25)) (fun _ h_ => h_.1))) hb); have n2_ := Aside0.mk (Kd.R_below (by (with_reducible repeat (first | apply rA_ | apply rN_ | apply rD_)); exact (Kd.R_mono (Kd.R_far (p := ⟨gb239, 2, none⟩) (Kd.R_far (p := ⟨gb239, 1, none⟩) (Kd.R_far (p := ⟨gb239, 0, none⟩) (Kd.R_types HO220.out BK239.out (by decide)) (fun _ hk => hk.2) (.slice Ao21 t229.length co21)) (fun _ hk => hk.2) (.slice Ao24 t232.length co24)) (fun _ hk => hk.2) (.slice Ao25 t235.length co25)) (fun _ h_ => h_.1))) hb); have n3_ := Aside0.mk (Kd.R_below (by (with_reducible repeat (first | apply rA_ | apply rN_ | apply rD_)); exact (Kd.R_mono (Kd.R_far (p := ⟨gb239, 2, none⟩) (Kd.R_far (p := ⟨gb239, 1, none⟩) (Kd.R_far (p := ⟨gb239, 0, none⟩) (Kd.R_types HO223.out BK239.out (by decide)) (fun _ hk => hk.2) (.slice Ao21 t229.length co21)) (fun _ hk => hk.2) (.slice Ao24 t232.length co24)) (fun _ hk => hk.2) (.slice Ao25 t235.length co25)) (fun _ h_ => h_.1))) hb); have n4_ := Aside0.mk (Kd.R_below (by (with_reducible repeat (first | apply rA_ | apply rN_ | apply rD_)); exact (Kd.R_mono (Kd.R_far (p := ⟨gb239, 2, none⟩) (Kd.R_far (p := ⟨gb239, 1, none⟩) (Kd.R_far (p := ⟨gb239, 0, none⟩) (Kd.R_types HO228.out BK239.out (by decide)) (fun _ hk => hk.2) (.slice Ao21 t229.length co21)) (fun _ hk => hk.2) (.slice Ao24 t232.length co24)) (fun _ hk => hk.2) (.slice Ao25 t235.length co25)) (fun _ h_ => h_.1))) hb); have n5_ := Aside0.mk (Kd.R_below (by (with_reducible repeat (first | apply rA_ | apply rN_ | apply rD_)); exact (Kd.R_mono (Kd.R_far (p := ⟨gb239, 2, none⟩) (Kd.R_far (p := ⟨gb239, 1, none⟩) (Kd.R_far (p := ⟨gb239, 0, none⟩) (Kd.R_types HO231.out BK239.out (by decide)) (fun _ hk => hk.2) (.slice Ao21 t229.length co21)) (fun _ hk => hk.2) (.slice Ao24 t232.length co24)) (fun _ hk => hk.2) (.slice Ao25 t235.length co25)) (fun _ h_ => h_.1))) hb); have n6_ := Aside0.mk (Kd.R_below (by (with_reducible repeat (first | apply rA_ | apply rN_ | apply rD_)); exact (Kd.R_mono (Kd.R_far (p := ⟨gb239, 2, none⟩) (Kd.R_far (p := ⟨gb239, 1, none⟩) (Kd.R_far (p := ⟨gb239, 0, none⟩) (Kd.R_types HO234.out BK239.out (by decide)) (fun _ hk => hk.2) (.slice Ao21 t229.length co21)) (fun _ hk => hk.2) (.slice Ao24 t232.length co24)) (fun _ hk => hk.2) (.slice Ao25 t235.length co25)) (fun _ h_ => h_.1))) hb); have n7_ := Aside0.mk (Kd.R_below (by (with_reducible repeat (first | apply rA_ | apply rN_ | apply rD_)); exact (Kd.R_mono (Kd.R_far (p := ⟨gb239, 2, none⟩) (Kd.R_far (p := ⟨gb239, 1, none⟩) (Kd.R_far (p := ⟨gb239, 0, none⟩) (Kd.R_types HO237.out BK239.out (by decide)) (fun _ hk => hk.2) (.slice Ao21 t229.length co21)) (fun _ hk => hk.2) (.slice Ao24 t232.length co24)) (fun _ hk => hk.2) (.slice Ao25 t235.length co25)) (fun _ h_ => h_.1))) hb); have n8_ := Aside0.mk (blk_below (g := gb225) (o := .cells #[.slice Ao13 t215.length co13, .slice Ao15 t218.length co15, .slice Ao16 t221.length co16] 35 (0, 0)) (by (with_reducible repeat (first | apply lN_ | apply lD_ | apply lA_)); refine blk_far ?_ NB225_239.out _; (with_reducible repeat (first | apply lN_ | apply lD_ | apply lA_)); refine blk_far ?_ NB225_239.out _; (with_reducible repeat (first | apply lN_ | apply lD_ | apply lA_)); refine blk_far ?_ NB225_239.out _; (with_reducible repeat (first | apply lN_ | apply lD_ | apply lA_)); exact BK225.out) hb); have n9_ := Aside0.mk (blk_below (g := gb239) (o := .cells #[.slice Ao21 t229.length co21, .slice Ao24 t232.length co24, .slice Ao25 t235.length co25] 35 (0, 0)) (by (with_reducible repeat (first | apply lN_ | apply lD_ | apply lA_)); refine blk_put (cs := #[.slice Ao21 t229.length co21, .slice Ao24 t232.length co24, .slice none 0 0]) ?_ 2 _ rfl; (with_reducible repeat (first | apply lN_ | apply lD_ | apply lA_)); refine blk_put (cs := #[.slice Ao21 t229.length co21, .slice none 0 0, .slice none 0 0]) ?_ 1 _ rfl; (with_reducible repeat (first | apply lN_ | apply lD_ | apply lA_)); refine blk_put (cs := #[.slice none 0 0, .slice none 0 0, .slice none 0 0]) ?_ 0 _ rfl; (with_reducible repeat (first | apply lN_ | apply lD_ | apply lA_)); exact BK239.out) hb); have n10_ := Aside0.mk (below_step (by repeat (first | (with_reducible first | exact HB.out | apply bA_ | apply bN_ | apply bD_ | refine bS_ ?_ GE225.out | refine bS_ ?_ GE239.out) | exact HB.out)) hb); clear HO214; clear HO217; clear HO220; clear HO223; clear HO228; clear HO231; clear HO234; clear HO237; clear BK225; clear BK239; clear HB; have HO214 := n0_; have HO217 := n1_; have HO220 := n2_; have HO223 := n3_; have HO228 := n4_; have HO231 := n5_; have HO234 := n6_; have HO237 := n7_; have BK225 := n8_; have BK239 := n9_; have HB := n10_; clear n0_ n1_ n2_ n3_ n4_ n5_ n6_ n7_ n8_ n9_ n10_; (try clear hb); (try clear hb2); (try clear hk); (try clear hi)))
    go_meet
    case rel => exact ⟨_, (true), (by first | rfl | (simp; done) | (simp [*]; done)), H', ⟨by first | omega | exact Nat.le_refl _⟩, ⟨by (with_reducible repeat (first | apply rA_ | apply rN_ | apply rD_)); exact Kd.R_mono HO228.out (fun _ hk => ⟨hk.1.2, hk.2⟩)⟩, ⟨by (with_reducible repeat (first | apply rA_ | apply rN_ | apply rD_)); exact Kd.R_mono HO217.out (fun _ hk => ⟨hk.1.2, hk.2⟩)⟩, ⟨by (with_reducible repeat (first | apply rA_ | apply rN_ | apply rD_)); exact Kd.R_mono HO220.out (fun _ hk => ⟨hk.1.1, ⟨hk.1.2, hk.2⟩⟩)⟩, ⟨by (with_reducible repeat (first | apply rA_ | apply rN_ | apply rD_)); exact Kd.R_mono HO223.out (fun _ hk => ⟨hk.1.1, ⟨hk.1.2, hk.2⟩⟩)⟩, ⟨by (with_reducible repeat (first | apply rA_ | apply rN_ | apply rD_)); exact Kd.R_mono HO231.out (fun _ hk => ⟨hk.2, hk.1.2⟩)⟩, ⟨by (with_reducible repeat (first | apply rA_ | apply rN_ | apply rD_)); exact Kd.R_mono HO234.out (fun _ hk => ⟨hk.1.2, ⟨hk.2, hk.1.1⟩⟩)⟩, ⟨by (with_reducible repeat (first | apply rA_ | apply rN_ | apply rD_)); exact Kd.R_mono HO237.out (fun _ hk => ⟨hk.1.2, ⟨hk.2, hk.1.1⟩⟩)⟩, ⟨by (with_reducible repeat (first | apply lN_ | apply lD_ | apply lA_)); exact BK225.out⟩, ⟨by (with_reducible repeat (first | apply lN_ | apply lD_ | apply lA_)); exact BK239.out⟩, ⟨by repeat (first | (with_reducible first | exact HB.out | apply bA_ | apply bN_ | apply bD_ | refine bS_ ?_ GE225.out | refine bS_ ?_ GE239.out) | exact HB.out)⟩⟩
  case rest =>
   clear HC8
   try clear c1
   try clear c2
   try clear p2
   try clear c3
   try clear c3b0
   try clear c4
   try clear c19
   try clear c20
   try clear c21
   try clear c22
   try clear c23
   try clear c27
   try clear c28
   try clear c32
   try clear hcz14_0
   try clear hcz14_1
   try clear hcz14_2
   try clear hcz23_0
   try clear hcz23_1
   try clear hcz23_2
   try clear hcz29_0
   try clear hcz29_1
   try clear hcz29_2
   try clear hcz30_0
   try clear hcz30_1
   try clear hcz30_2
   try clear hcz33_0
   try clear hcz33_1
   try clear hcz33_2
   try clear hcz34_0
   try clear hcz34_1
   try clear hcz34_2
   try clear hfz14_0
   try clear hfz14_1
   try clear hfz14_2
   try clear hfz23_0
   try clear hfz23_1
   try clear hfz23_2
   try clear hfz29_0
   try clear hfz29_1
   try clear hfz29_2
   try clear hfz30_0
   try clear hfz30_1
   try clear hfz30_2
   try clear hfz33_0
   try clear hfz33_1
   try clear hfz33_2
   try clear hfz34_0
   try clear hfz34_1
   try clear hfz34_2
   obtain ⟨kq, x40_7, rfl, HA, HJ7, HO_6, HO_226000, HO_226001, HO_226002, HO_240000, HO_240001, HO_240002, BK225, BK239, HB⟩ := hcut
   cases kq with
   | zero => exact absurd HA.out (by simp [laws_FnExactStartDesk.j0])
   | succ kj7 =>
    have H := HA.out
    clear HA
    simp only [laws_FnExactStartDesk.j0] at H
    by_cases c36 : x40_7 = true
    ·subst c36
     have H1 : (none) = some r := by rw [if_pos rfl] at H; exact H
     clear H
     have H := H1
     clear H1
     exact absurd H (by simp)
    ·replace c36 := Bool.eq_false_iff.mpr c36
     subst c36
     have H1 : ((laws_toStringS.f kj7 l0).bind fun t241 => ((laws_eqStringS.f kj7 t226 t241).bind fun t244 => (if t244 = true then ((laws_markStringS.f kj7 t226 1).bind fun bt245 => (if bt245.1 < 0 then (laws_FnExactStartDesk.j1 kj7 l0 t224 true t215 t218 t221 t229 t232 t235) else ((laws_eqDesk.f kj7 t229 t232 t235 t215 t218 t221).bind fun t247 => (if t247 = true then (laws_FnExactStartDesk.j1 kj7 l0 t224 (t238 != t224) t215 t218 t221 t229 t232 t235) else (laws_FnExactStartDesk.j1 kj7 l0 t224 true t215 t218 t221 t229 t232 t235))))) else (none)))) = some r := by rw [if_neg (show ¬ (false = true) by decide)] at H; exact H
     clear H
     have H := H1
     clear H1
     replace H := Option.bind_eq_some_iff.mp H
     obtain ⟨t241, A370, H⟩ := H
     replace H : ((laws_eqStringS.f kj7 t226 t241).bind fun t244 => (if t244 = true then ((laws_markStringS.f kj7 t226 1).bind fun bt245 => (if bt245.1 < 0 then (laws_FnExactStartDesk.j1 kj7 l0 t224 true t215 t218 t221 t229 t232 t235) else ((laws_eqDesk.f kj7 t229 t232 t235 t215 t218 t221).bind fun t247 => (if t247 = true then (laws_FnExactStartDesk.j1 kj7 l0 t224 (t238 != t224) t215 t218 t221 t229 t232 t235) else (laws_FnExactStartDesk.j1 kj7 l0 t224 true t215 t218 t221 t229 t232 t235))))) else (none))) = some r := H
     have A37 := Aside0.mk A370
     clear A370
     replace H := Option.bind_eq_some_iff.mp H
     obtain ⟨t244, A380, H⟩ := H
     replace H : (if t244 = true then ((laws_markStringS.f kj7 t226 1).bind fun bt245 => (if bt245.1 < 0 then (laws_FnExactStartDesk.j1 kj7 l0 t224 true t215 t218 t221 t229 t232 t235) else ((laws_eqDesk.f kj7 t229 t232 t235 t215 t218 t221).bind fun t247 => (if t247 = true then (laws_FnExactStartDesk.j1 kj7 l0 t224 (t238 != t224) t215 t218 t221 t229 t232 t235) else (laws_FnExactStartDesk.j1 kj7 l0 t224 true t215 t218 t221 t229 t232 t235))))) else (none)) = some r := H
     have A38 := Aside0.mk A380
     clear A380
     by_cases c39 : t244 = true
     ·subst c39
      have H1 : ((laws_markStringS.f kj7 t226 1).bind fun bt245 => (if bt245.1 < 0 then (laws_FnExactStartDesk.j1 kj7 l0 t224 true t215 t218 t221 t229 t232 t235) else ((laws_eqDesk.f kj7 t229 t232 t235 t215 t218 t221).bind fun t247 => (if t247 = true then (laws_FnExactStartDesk.j1 kj7 l0 t224 (t238 != t224) t215 t218 t221 t229 t232 t235) else (laws_FnExactStartDesk.j1 kj7 l0 t224 true t215 t218 t221 t229 t232 t235))))) = some r := by rw [if_pos rfl] at H; exact H
      clear H
      have H := H1
      clear H1
      replace H := Option.bind_eq_some_iff.mp H
      obtain ⟨⟨t245, t246⟩, A400, H⟩ := H
      replace H : (if t245 < 0 then (laws_FnExactStartDesk.j1 kj7 l0 t224 true t215 t218 t221 t229 t232 t235) else ((laws_eqDesk.f kj7 t229 t232 t235 t215 t218 t221).bind fun t247 => (if t247 = true then (laws_FnExactStartDesk.j1 kj7 l0 t224 (t238 != t224) t215 t218 t221 t229 t232 t235) else (laws_FnExactStartDesk.j1 kj7 l0 t224 true t215 t218 t221 t229 t232 t235)))) = some r := H
      have A40 := Aside0.mk A400
      clear A400
      have HC41 := Aside0.mk H
      clear H
      go_upto_region 14 with (first | ((with_reducible refine gate_callee (f := 21) rfl ?_); refine goesL_ (some 43) rfl rfl Try.func21 (by kernel_rfl) rfl #[.slice A0 l0.length c0] rfl (by (try simp only [List.map_toArray, List.map_cons, List.map_nil]); first | done | rfl | (simp only [List.length_drop, List.length_take]; rfl)) ?_; (with_reducible refine (laws_toStringS.calls kj7 _ _ l0 t241 _ ?side1 ?side2 A37.out).mono ?_); (case side1 => repeat (first | exact (Kd.C_below HR0.out HB.out) | (with_reducible first | apply cA_ | apply cN_ | apply cD_))); (case side2 => exact HC0.out); rintro e w42 ⟨v242, rfl, ho0, hb⟩; refine ⟨_, rfl, ?_⟩; have n0_ := Aside0.mk (Kd.R_elder' (by (with_reducible repeat (first | apply rA_ | apply rN_ | apply rD_)); exact HO_6.out) (Kd.R_base ho0) hb); have n1_ := Aside0.mk (Kd.R_elder' (by (with_reducible repeat (first | apply rA_ | apply rN_ | apply rD_)); exact HO_226000.out) (Kd.R_base ho0) hb); have n2_ := Aside0.mk (Kd.R_below (by (with_reducible repeat (first | apply rA_ | apply rN_ | apply rD_)); exact HO_226001.out) hb); have n3_ := Aside0.mk (Kd.R_below (by (with_reducible repeat (first | apply rA_ | apply rN_ | apply rD_)); exact HO_226002.out) hb); have n4_ := Aside0.mk (Kd.R_elder' (by (with_reducible repeat (first | apply rA_ | apply rN_ | apply rD_)); exact HO_240000.out) (Kd.R_base ho0) hb); have n5_ := Aside0.mk (Kd.R_below (by (with_reducible repeat (first | apply rA_ | apply rN_ | apply rD_)); exact HO_240001.out) hb); have n6_ := Aside0.mk (Kd.R_below (by (with_reducible repeat (first | apply rA_ | apply rN_ | apply rD_)); exact HO_240002.out) hb); have n7_ := Aside0.mk (Kd.R_lower (Kd.R_new' (Kd.R_new' (Kd.R_new' ho0 (Kd.R_lt (by (with_reducible repeat (first | apply rA_ | apply rN_ | apply rD_)); exact HO_6.out))) (Kd.R_lt (by (with_reducible repeat (first | apply rA_ | apply rN_ | apply rD_)); exact HO_226000.out))) (Kd.R_lt (by (with_reducible repeat (first | apply rA_ | apply rN_ | apply rD_)); exact HO_240000.out))) (below_size (by repeat (first | (with_reducible first | exact HB.out | apply bA_ | apply bN_ | apply bD_ | refine bS_ ?_ GE225.out | refine bS_ ?_ GE239.out) | exact HB.out)))); have n8_ := Aside0.mk (blk_below (g := gb225) (o := .cells #[.slice Ao13 t215.length co13, .slice Ao15 t218.length co15, .slice Ao16 t221.length co16] 35 (0, 0)) (by (with_reducible repeat (first | apply lN_ | apply lD_ | apply lA_)); exact BK225.out) hb); have n9_ := Aside0.mk (blk_below (g := gb239) (o := .cells #[.slice Ao21 t229.length co21, .slice Ao24 t232.length co24, .slice Ao25 t235.length co25] 35 (0, 0)) (by (with_reducible repeat (first | apply lN_ | apply lD_ | apply lA_)); exact BK239.out) hb); have n10_ := Aside0.mk (below_step (by repeat (first | (with_reducible first | exact HB.out | apply bA_ | apply bN_ | apply bD_ | refine bS_ ?_ GE225.out | refine bS_ ?_ GE239.out) | exact HB.out)) hb); clear HO_6; clear HO_226000; clear HO_226001; clear HO_226002; clear HO_240000; clear HO_240001; clear HO_240002; clear BK225; clear BK239; clear HB; have HO_6 := n0_; have HO_226000 := n1_; have HO_226001 := n2_; have HO_226002 := n3_; have HO_240000 := n4_; have HO_240001 := n5_; have HO_240002 := n6_; have HO243 := n7_; have BK225 := n8_; have BK239 := n9_; have HB := n10_; clear n0_ n1_ n2_ n3_ n4_ n5_ n6_ n7_ n8_ n9_ n10_; (try clear hb); (try clear hb2); (try clear hk); (try clear hi); (try clear ho0); obtain ⟨Ao43, co43, eo43⟩ := Kd.R_slice HO243.out; subst eo43) | ((with_reducible refine gate_callee (f := 24) rfl ?_); refine goesL_ (some 44) rfl rfl Try.func24 (by kernel_rfl) rfl #[.slice Ao18 t226.length co18, .slice Ao43 t241.length co43] rfl (by (try simp only [List.map_toArray, List.map_cons, List.map_nil]); first | done | rfl | (simp only [List.length_drop, List.length_take]; rfl)) ?_; (with_reducible refine (laws_eqStringS.calls kj7 _ _ t226 _ _ t241 true _ ?side1 ?side2 ?side3 ?side4 A38.out).mono ?_); (case side1 => repeat (first | exact (Kd.R_reads' HO_6.out).2.2 | (with_reducible first | apply cA_ | apply cN_ | apply cD_))); (case side2 => exact (Kd.R_reads' HO_6.out).2.1); (case side3 => repeat (first | exact (Kd.R_reads' HO243.out).2.2 | (with_reducible first | apply cA_ | apply cN_ | apply cD_))); (case side4 => exact (Kd.R_reads' HO243.out).2.1); rintro e w' ⟨rfl, ⟨nd, rfl⟩⟩; refine ⟨_, rfl, ?_⟩) | ((with_reducible refine gate_callee (f := 25) rfl ?_); refine goesL_ (some 48) rfl rfl Try.func25 (by kernel_rfl) rfl #[.slice Ao18 t226.length co18, .int .i64 1] rfl (by (try simp only [List.map_toArray, List.map_cons, List.map_nil]); first | done | rfl | (simp only [List.length_drop, List.length_take]; rfl)) ?_; (with_reducible refine (laws_markStringS.calls kj7 (fun k_ => some k_ = (.slice Ao18 t226.length co18 : Value).ownBlock) (.slice Ao18 t226.length co18) t226 1 t245 t246 w _ ?side1 ?side2 A40.out).mono ?_); (case side1 => repeat (first | (with_reducible first | exact HB.out | apply bA_ | apply bN_ | apply bD_ | refine bS_ ?_ GE225.out | refine bS_ ?_ GE239.out) | exact HB.out)); (case side2 => exact Kd.R_tight rfl HO_6.out); rintro e w44 ⟨rfl, hy0, hb, hkp⟩; refine ⟨_, rfl, ?_⟩; have n0_ := Aside0.mk (Kd.R_reok rfl hy0 (fun k_ e_ => HO_6.out.1 k_ e_)); have n1_ := Aside0.mk (Kd.R_mono (ok' := fun k_ => some k_ ≠ (.slice Ao18 t226.length co18 : Value).ownBlock ∧ some k_ ≠ (.slice Ao21 t229.length co21 : Value).ownBlock ∧ some k_ ≠ (.slice Ao43 t241.length co43 : Value).ownBlock) (Kd.R_keptB (HO_226000.out) hkp (fun k_ hk_ hs_ => (hk_.1.1) hs_)) (fun k_ hk_ => ⟨hk_.1.1.1, hk_.1.1.2, hk_.1.2⟩)); have n2_ := Aside0.mk (Kd.R_mono (ok' := fun k_ => some k_ ≠ (.slice Ao16 t221.length co16 : Value).ownBlock ∧ some k_ ≠ (.slice Ao24 t232.length co24 : Value).ownBlock ∧ some k_ ≠ (.slice Ao25 t235.length co25 : Value).ownBlock) (Kd.R_keptB ((Kd.R_apart' HO_226001.out (Kd.R_typed HO_6.out) (by decide))) hkp (fun k_ hk_ hs_ => (hk_.2) hs_)) (fun k_ hk_ => ⟨hk_.1.1.1, hk_.1.1.2.1, hk_.1.1.2.2⟩)); have n3_ := Aside0.mk (Kd.R_mono (ok' := fun k_ => some k_ ≠ (.slice Ao15 t218.length co15 : Value).ownBlock ∧ some k_ ≠ (.slice Ao24 t232.length co24 : Value).ownBlock ∧ some k_ ≠ (.slice Ao25 t235.length co25 : Value).ownBlock) (Kd.R_keptB ((Kd.R_apart' HO_226002.out (Kd.R_typed HO_6.out) (by decide))) hkp (fun k_ hk_ hs_ => (hk_.2) hs_)) (fun k_ hk_ => ⟨hk_.1.1.1, hk_.1.1.2.1, hk_.1.1.2.2⟩)); have n4_ := Aside0.mk (Kd.R_mono (ok' := fun k_ => some k_ ≠ (.slice Ao18 t226.length co18 : Value).ownBlock ∧ some k_ ≠ (.slice Ao13 t215.length co13 : Value).ownBlock ∧ some k_ ≠ (.slice Ao43 t241.length co43 : Value).ownBlock) (Kd.R_keptB (HO_240000.out) hkp (fun k_ hk_ hs_ => (hk_.1.1) hs_)) (fun k_ hk_ => ⟨hk_.1.1.1, hk_.1.1.2, hk_.1.2⟩)); have n5_ := Aside0.mk (Kd.R_mono (ok' := fun k_ => some k_ ≠ (.slice Ao15 t218.length co15 : Value).ownBlock ∧ some k_ ≠ (.slice Ao16 t221.length co16 : Value).ownBlock ∧ some k_ ≠ (.slice Ao25 t235.length co25 : Value).ownBlock) (Kd.R_keptB ((Kd.R_apart' HO_240001.out (Kd.R_typed HO_6.out) (by decide))) hkp (fun k_ hk_ hs_ => (hk_.2) hs_)) (fun k_ hk_ => ⟨hk_.1.1.1, hk_.1.1.2.1, hk_.1.1.2.2⟩)); have n6_ := Aside0.mk (Kd.R_mono (ok' := fun k_ => some k_ ≠ (.slice Ao15 t218.length co15 : Value).ownBlock ∧ some k_ ≠ (.slice Ao16 t221.length co16 : Value).ownBlock ∧ some k_ ≠ (.slice Ao24 t232.length co24 : Value).ownBlock) (Kd.R_keptB ((Kd.R_apart' HO_240002.out (Kd.R_typed HO_6.out) (by decide))) hkp (fun k_ hk_ hs_ => (hk_.2) hs_)) (fun k_ hk_ => ⟨hk_.1.1.1, hk_.1.1.2.1, hk_.1.1.2.2⟩)); have n7_ := Aside0.mk (blk_kept (by (with_reducible repeat (first | apply lN_ | apply lD_ | apply lA_)); exact BK225.out) hkp (fun hs_ => (fun e_ => (Kd.R_ne HO_6.out BK225.out (by decide)) e_) hs_)); have n8_ := Aside0.mk (blk_kept (by (with_reducible repeat (first | apply lN_ | apply lD_ | apply lA_)); exact BK239.out) hkp (fun hs_ => (fun e_ => (Kd.R_ne HO_6.out BK239.out (by decide)) e_) hs_)); have n9_ := Aside0.mk (Kd.R_mono (ok' := fun k_ => some k_ ≠ (.slice Ao18 t226.length co18 : Value).ownBlock ∧ some k_ ≠ (.slice Ao13 t215.length co13 : Value).ownBlock ∧ some k_ ≠ (.slice Ao21 t229.length co21 : Value).ownBlock) (Kd.R_keptB (HO243.out) hkp (fun k_ hk_ hs_ => (hk_.1.1.2) hs_)) (fun k_ hk_ => ⟨hk_.1.1.1.2, hk_.1.1.2, hk_.1.2⟩)); have n10_ := Aside0.mk (hb); clear HO_6; clear HO_226000; clear HO_226001; clear HO_226002; clear HO_240000; clear HO_240001; clear HO_240002; clear BK225; clear BK239; clear HO243; clear HB; have HO_6 := n0_; have HO_226000 := n1_; have HO_226001 := n2_; have HO_226002 := n3_; have HO_240000 := n4_; have HO_240001 := n5_; have HO_240002 := n6_; have BK225 := n7_; have BK239 := n8_; have HO243 := n9_; have HB := n10_; clear n0_ n1_ n2_ n3_ n4_ n5_ n6_ n7_ n8_ n9_ n10_; (try clear hb); (try clear hkp); (try clear hy0)))
      (try simp only [Act.put, List.setIfInBounds_toArray, List.set_cons_zero, List.set_cons_succ])
      go_cut [61] (fun v61 wc => ∃ (kq : Nat) (x61_40 : Bool), v61 = .bool x61_40 ∧ Aside0 (laws_FnExactStartDesk.j1 kq l0 t224 x61_40 t215 t218 t221 t229 t232 t235 = some r) ∧ Aside0 (kq ≤ kj7) ∧ Aside0 (Kd.R Kd.string 9 wc w.heap.size (fun k_ => some k_ ≠ ((.slice Ao21 t229.length co21) : Value).ownBlock) (.slice Ao13 t215.length co13) t215) ∧ Aside0 (Kd.R k25 25 wc w.heap.size (fun k_ => some k_ ≠ ((.slice Ao16 t221.length co16) : Value).ownBlock ∧ some k_ ≠ ((.slice Ao24 t232.length co24) : Value).ownBlock ∧ some k_ ≠ ((.slice Ao25 t235.length co25) : Value).ownBlock) (.slice Ao15 t218.length co15) t218) ∧ Aside0 (Kd.R k25 25 wc w.heap.size (fun k_ => some k_ ≠ ((.slice Ao15 t218.length co15) : Value).ownBlock ∧ some k_ ≠ ((.slice Ao24 t232.length co24) : Value).ownBlock ∧ some k_ ≠ ((.slice Ao25 t235.length co25) : Value).ownBlock) (.slice Ao16 t221.length co16) t221) ∧ Aside0 (Kd.R Kd.string 9 wc w.heap.size (fun k_ => some k_ ≠ ((.slice Ao13 t215.length co13) : Value).ownBlock) (.slice Ao21 t229.length co21) t229) ∧ Aside0 (Kd.R k25 25 wc w.heap.size (fun k_ => some k_ ≠ ((.slice Ao15 t218.length co15) : Value).ownBlock ∧ some k_ ≠ ((.slice Ao16 t221.length co16) : Value).ownBlock ∧ some k_ ≠ ((.slice Ao25 t235.length co25) : Value).ownBlock) (.slice Ao24 t232.length co24) t232) ∧ Aside0 (Kd.R k25 25 wc w.heap.size (fun k_ => some k_ ≠ ((.slice Ao15 t218.length co15) : Value).ownBlock ∧ some k_ ≠ ((.slice Ao16 t221.length co16) : Value).ownBlock ∧ some k_ ≠ ((.slice Ao24 t232.length co24) : Value).ownBlock) (.slice Ao25 t235.length co25) t235) ∧ Aside0 (wc.heap[gb225]? = some (.cells #[(.slice Ao13 t215.length co13), (.slice Ao15 t218.length co15), (.slice Ao16 t221.length co16)] 35 (0, 0))) ∧ Aside0 (wc.heap[gb239]? = some (.cells #[(.slice Ao21 t229.length co21), (.slice Ao24 t232.length co24), (.slice Ao25 t235.length co25)] 35 (0, 0))) ∧ Aside0 (Below w.heap.size w wc))
      case first =>
       have H := HC41.out
       clear HC41
       by_cases c45 : t245 < 0
       ·rw [if_pos c45] at H
        have c45b0 : decide (t245 < 0) = true := decide_eq_true c45
        clear c45
        (first | rw [c45b0] | (simp only [i64_w, i32_w]; rw [c45b0]) | skip)
        have H' := Aside0.mk H
        clear H
        go_wp2
        go_meet
        case rel => exact ⟨_, (true), (by first | rfl | (simp; done) | (simp [*]; done)), H', ⟨by have := HJ7.out; first | omega | exact Nat.le_refl _⟩, ⟨by (with_reducible repeat (first | apply rA_ | apply rN_ | apply rD_)); exact Kd.R_mono HO_226000.out (fun _ hk => hk.2.1)⟩, ⟨by (with_reducible repeat (first | apply rA_ | apply rN_ | apply rD_)); exact HO_226001.out⟩, ⟨by (with_reducible repeat (first | apply rA_ | apply rN_ | apply rD_)); exact HO_226002.out⟩, ⟨by (with_reducible repeat (first | apply rA_ | apply rN_ | apply rD_)); exact Kd.R_mono HO_240000.out (fun _ hk => hk.2.1)⟩, ⟨by (with_reducible repeat (first | apply rA_ | apply rN_ | apply rD_)); exact HO_240001.out⟩, ⟨by (with_reducible repeat (first | apply rA_ | apply rN_ | apply rD_)); exact HO_240002.out⟩, ⟨by (with_reducible repeat (first | apply lN_ | apply lD_ | apply lA_)); exact BK225.out⟩, ⟨by (with_reducible repeat (first | apply lN_ | apply lD_ | apply lA_)); exact BK239.out⟩, ⟨by repeat (first | (with_reducible first | exact HB.out | apply bA_ | apply bN_ | apply bD_ | refine bS_ ?_ GE225.out | refine bS_ ?_ GE239.out) | exact HB.out)⟩⟩
       ·rw [if_neg c45] at H
        have c45b0 : decide (t245 < 0) = false := decide_eq_false c45
        clear c45
        (first | rw [c45b0] | (simp only [i64_w, i32_w]; rw [c45b0]) | skip)
        replace H := Option.bind_eq_some_iff.mp H
        obtain ⟨t247, A460, H⟩ := H
        replace H : (if t247 = true then (laws_FnExactStartDesk.j1 kj7 l0 t224 (t238 != t224) t215 t218 t221 t229 t232 t235) else (laws_FnExactStartDesk.j1 kj7 l0 t224 true t215 t218 t221 t229 t232 t235)) = some r := H
        have A46 := Aside0.mk A460
        clear A460
        by_cases c47 : t247 = true
        ·subst c47
         have H1 : (laws_FnExactStartDesk.j1 kj7 l0 t224 (t238 != t224) t215 t218 t221 t229 t232 t235) = some r := by rw [if_pos rfl] at H; exact H
         clear H
         have H := H1
         clear H1
         have H' := Aside0.mk H
         clear H
         have hnb48 := NB239_225.out
         have hnc48 := NB225_239.out
         have hcz49_0 : w44.cell? ⟨gb239, 0, none⟩ = some (.slice Ao21 t229.length co21) := (blk_cell BK239.out 0).trans rfl
         have hcz49_1 : w44.cell? ⟨gb239, 1, none⟩ = some (.slice Ao24 t232.length co24) := (blk_cell BK239.out 1).trans rfl
         have hcz49_2 : w44.cell? ⟨gb239, 2, none⟩ = some (.slice Ao25 t235.length co25) := (blk_cell BK239.out 2).trans rfl
         have hfz49_0 := blk_frozen BK239.out 0
         have hfz49_1 := blk_frozen BK239.out 1
         have hfz49_2 := blk_frozen BK239.out 2
         have hcz50_0 : w44.cell? ⟨gb225, 0, none⟩ = some (.slice Ao13 t215.length co13) := (blk_cell BK225.out 0).trans rfl
         have hcz50_1 : w44.cell? ⟨gb225, 1, none⟩ = some (.slice Ao15 t218.length co15) := (blk_cell BK225.out 1).trans rfl
         have hcz50_2 : w44.cell? ⟨gb225, 2, none⟩ = some (.slice Ao16 t221.length co16) := (blk_cell BK225.out 2).trans rfl
         have hfz50_0 := blk_frozen BK225.out 0
         have hfz50_1 := blk_frozen BK225.out 1
         have hfz50_2 := blk_frozen BK225.out 2
         go_wp2_with (first | (go_at_call 23; (with_reducible refine (laws_eqDesk.calls kj7 _ _ t229 _ _ t232 _ _ t235 _ _ t215 _ _ t218 _ _ t221 true _ ?side1 ?side2 ?side3 ?side4 ?side5 ?side6 ?side7 ?side8 ?side9 ?side10 ?side11 ?side12 A46.out).mono ?_); (case side1 => repeat (first | exact (Kd.R_reads' HO_240000.out).2.2 | (with_reducible first | apply cA_ | apply cN_ | apply cD_))); (case side2 => exact (Kd.R_reads' HO_240000.out).2.1); (case side3 => repeat (first | exact (Kd.R_reads' HO_240001.out).2.2 | (with_reducible first | apply cA_ | apply cN_ | apply cD_))); (case side4 => exact (Kd.R_reads' HO_240001.out).2.1); (case side5 => repeat (first | exact (Kd.R_reads' HO_240002.out).2.2 | (with_reducible first | apply cA_ | apply cN_ | apply cD_))); (case side6 => exact (Kd.R_reads' HO_240002.out).2.1); (case side7 => repeat (first | exact (Kd.R_reads' HO_226000.out).2.2 | (with_reducible first | apply cA_ | apply cN_ | apply cD_))); (case side8 => exact (Kd.R_reads' HO_226000.out).2.1); (case side9 => repeat (first | exact (Kd.R_reads' HO_226001.out).2.2 | (with_reducible first | apply cA_ | apply cN_ | apply cD_))); (case side10 => exact (Kd.R_reads' HO_226001.out).2.1); (case side11 => repeat (first | exact (Kd.R_reads' HO_226002.out).2.2 | (with_reducible first | apply cA_ | apply cN_ | apply cD_))); (case side12 => exact (Kd.R_reads' HO_226002.out).2.1); rintro e w51 ⟨rfl, hb⟩; have n0_ := Aside0.mk (Kd.R_below (by (with_reducible repeat (first | apply rA_ | apply rN_ | apply rD_)); exact HO_6.out) hb); have n1_ := Aside0.mk (Kd.R_below (by (with_reducible repeat (first | apply rA_ | apply rN_ | apply rD_)); exact HO_226000.out) hb); have n2_ := Aside0.mk (Kd.R_below (by (with_reducible repeat (first | apply rA_ | apply rN_ | apply rD_)); exact HO_226001.out) hb); have n3_ := Aside0.mk (Kd.R_below (by (with_reducible repeat (first | apply rA_ | apply rN_ | apply rD_)); exact HO_226002.out) hb); have n4_ := Aside0.mk (Kd.R_below (by (with_reducible repeat (first | apply rA_ | apply rN_ | apply rD_)); exact HO_240000.out) hb); have n5_ := Aside0.mk (Kd.R_below (by (with_reducible repeat (first | apply rA_ | apply rN_ | apply rD_)); exact HO_240001.out) hb); have n6_ := Aside0.mk (Kd.R_below (by (with_reducible repeat (first | apply rA_ | apply rN_ | apply rD_)); exact HO_240002.out) hb); have n7_ := Aside0.mk (Kd.R_below (by (with_reducible repeat (first | apply rA_ | apply rN_ | apply rD_)); exact HO243.out) hb); have n8_ := Aside0.mk (blk_below (g := gb225) (o := .cells #[.slice Ao13 t215.length co13, .slice Ao15 t218.length co15, .slice Ao16 t221.length co16] 35 (0, 0)) (by (with_reducible repeat (first | apply lN_ | apply lD_ | apply lA_)); exact BK225.out) hb); have n9_ := Aside0.mk (blk_below (g := gb239) (o := .cells #[.slice Ao21 t229.length co21, .slice Ao24 t232.length co24, .slice Ao25 t235.length co25] 35 (0, 0)) (by (with_reducible repeat (first | apply lN_ | apply lD_ | apply lA_)); exact BK239.out) hb); have n10_ := Aside0.mk (below_step (by repeat (first | (with_reducible first | exact HB.out | apply bA_ | apply bN_ | apply bD_ | refine bS_ ?_ GE225.out | refine bS_ ?_ GE239.out) | exact HB.out)) hb); clear HO_6; clear HO_226000; clear HO_226001; clear HO_226002; clear HO_240000; clear HO_240001; clear HO_240002; clear HO243; clear BK225; clear BK239; clear HB; have HO_6 := n0_; have HO_226000 := n1_; have HO_226001 := n2_; have HO_226002 := n3_; have HO_240000 := n4_; have HO_240001 := n5_; have HO_240002 := n6_; have HO243 := n7_; have BK225 := n8_; have BK239 := n9_; have HB := n10_; clear n0_ n1_ n2_ n3_ n4_ n5_ n6_ n7_ n8_ n9_ n10_; (try clear hb); (try clear hb2); (try clear hk); (try clear hi)))
         go_meet
         case rel => exact ⟨_, ((t238 != t224)), (by first | rfl | (simp; done) | (simp [*]; done)), H', ⟨by have := HJ7.out; first | omega | exact Nat.le_refl _⟩, ⟨by (with_reducible repeat (first | apply rA_ | apply rN_ | apply rD_)); exact Kd.R_mono HO_226000.out (fun _ hk => hk.2.1)⟩, ⟨by (with_reducible repeat (first | apply rA_ | apply rN_ | apply rD_)); exact HO_226001.out⟩, ⟨by (with_reducible repeat (first | apply rA_ | apply rN_ | apply rD_)); exact HO_226002.out⟩, ⟨by (with_reducible repeat (first | apply rA_ | apply rN_ | apply rD_)); exact Kd.R_mono HO_240000.out (fun _ hk => hk.2.1)⟩, ⟨by (with_reducible repeat (first | apply rA_ | apply rN_ | apply rD_)); exact HO_240001.out⟩, ⟨by (with_reducible repeat (first | apply rA_ | apply rN_ | apply rD_)); exact HO_240002.out⟩, ⟨by (with_reducible repeat (first | apply lN_ | apply lD_ | apply lA_)); exact BK225.out⟩, ⟨by (with_reducible repeat (first | apply lN_ | apply lD_ | apply lA_)); exact BK239.out⟩, ⟨by repeat (first | (with_reducible first | exact HB.out | apply bA_ | apply bN_ | apply bD_ | refine bS_ ?_ GE225.out | refine bS_ ?_ GE239.out) | exact HB.out)⟩⟩
        ·replace c47 := Bool.eq_false_iff.mpr c47
         subst c47
         have H1 : (laws_FnExactStartDesk.j1 kj7 l0 t224 true t215 t218 t221 t229 t232 t235) = some r := by rw [if_neg (show ¬ (false = true) by decide)] at H; exact H
         clear H
         have H := H1
         clear H1
         have H' := Aside0.mk H
         clear H
         have hnb52 := NB239_225.out
         have hnc52 := NB225_239.out
         have hcz53_0 : w44.cell? ⟨gb239, 0, none⟩ = some (.slice Ao21 t229.length co21) := (blk_cell BK239.out 0).trans rfl
         have hcz53_1 : w44.cell? ⟨gb239, 1, none⟩ = some (.slice Ao24 t232.length co24) := (blk_cell BK239.out 1).trans rfl
         have hcz53_2 : w44.cell? ⟨gb239, 2, none⟩ = some (.slice Ao25 t235.length co25) := (blk_cell BK239.out 2).trans rfl
         have hfz53_0 := blk_frozen BK239.out 0
         have hfz53_1 := blk_frozen BK239.out 1
         have hfz53_2 := blk_frozen BK239.out 2
         have hcz54_0 : w44.cell? ⟨gb225, 0, none⟩ = some (.slice Ao13 t215.length co13) := (blk_cell BK225.out 0).trans rfl
         have hcz54_1 : w44.cell? ⟨gb225, 1, none⟩ = some (.slice Ao15 t218.length co15) := (blk_cell BK225.out 1).trans rfl
         have hcz54_2 : w44.cell? ⟨gb225, 2, none⟩ = some (.slice Ao16 t221.length co16) := (blk_cell BK225.out 2).trans rfl
         have hfz54_0 := blk_frozen BK225.out 0
         have hfz54_1 := blk_frozen BK225.out 1
         have hfz54_2 := blk_frozen BK225.out 2
         go_wp2_with (first | (go_at_call 23; (with_reducible refine (laws_eqDesk.calls kj7 _ _ t229 _ _ t232 _ _ t235 _ _ t215 _ _ t218 _ _ t221 false _ ?side1 ?side2 ?side3 ?side4 ?side5 ?side6 ?side7 ?side8 ?side9 ?side10 ?side11 ?side12 A46.out).mono ?_); (case side1 => repeat (first | exact (Kd.R_reads' HO_240000.out).2.2 | (with_reducible first | apply cA_ | apply cN_ | apply cD_))); (case side2 => exact (Kd.R_reads' HO_240000.out).2.1); (case side3 => repeat (first | exact (Kd.R_reads' HO_240001.out).2.2 | (with_reducible first | apply cA_ | apply cN_ | apply cD_))); (case side4 => exact (Kd.R_reads' HO_240001.out).2.1); (case side5 => repeat (first | exact (Kd.R_reads' HO_240002.out).2.2 | (with_reducible first | apply cA_ | apply cN_ | apply cD_))); (case side6 => exact (Kd.R_reads' HO_240002.out).2.1); (case side7 => repeat (first | exact (Kd.R_reads' HO_226000.out).2.2 | (with_reducible first | apply cA_ | apply cN_ | apply cD_))); (case side8 => exact (Kd.R_reads' HO_226000.out).2.1); (case side9 => repeat (first | exact (Kd.R_reads' HO_226001.out).2.2 | (with_reducible first | apply cA_ | apply cN_ | apply cD_))); (case side10 => exact (Kd.R_reads' HO_226001.out).2.1); (case side11 => repeat (first | exact (Kd.R_reads' HO_226002.out).2.2 | (with_reducible first | apply cA_ | apply cN_ | apply cD_))); (case side12 => exact (Kd.R_reads' HO_226002.out).2.1); rintro e w55 ⟨rfl, hb⟩; have n0_ := Aside0.mk (Kd.R_below (by (with_reducible repeat (first | apply rA_ | apply rN_ | apply rD_)); exact HO_6.out) hb); have n1_ := Aside0.mk (Kd.R_below (by (with_reducible repeat (first | apply rA_ | apply rN_ | apply rD_)); exact HO_226000.out) hb); have n2_ := Aside0.mk (Kd.R_below (by (with_reducible repeat (first | apply rA_ | apply rN_ | apply rD_)); exact HO_226001.out) hb); have n3_ := Aside0.mk (Kd.R_below (by (with_reducible repeat (first | apply rA_ | apply rN_ | apply rD_)); exact HO_226002.out) hb); have n4_ := Aside0.mk (Kd.R_below (by (with_reducible repeat (first | apply rA_ | apply rN_ | apply rD_)); exact HO_240000.out) hb); have n5_ := Aside0.mk (Kd.R_below (by (with_reducible repeat (first | apply rA_ | apply rN_ | apply rD_)); exact HO_240001.out) hb); have n6_ := Aside0.mk (Kd.R_below (by (with_reducible repeat (first | apply rA_ | apply rN_ | apply rD_)); exact HO_240002.out) hb); have n7_ := Aside0.mk (Kd.R_below (by (with_reducible repeat (first | apply rA_ | apply rN_ | apply rD_)); exact HO243.out) hb); have n8_ := Aside0.mk (blk_below (g := gb225) (o := .cells #[.slice Ao13 t215.length co13, .slice Ao15 t218.length co15, .slice Ao16 t221.length co16] 35 (0, 0)) (by (with_reducible repeat (first | apply lN_ | apply lD_ | apply lA_)); exact BK225.out) hb); have n9_ := Aside0.mk (blk_below (g := gb239) (o := .cells #[.slice Ao21 t229.length co21, .slice Ao24 t232.length co24, .slice Ao25 t235.length co25] 35 (0, 0)) (by (with_reducible repeat (first | apply lN_ | apply lD_ | apply lA_)); exact BK239.out) hb); have n10_ := Aside0.mk (below_step (by repeat (first | (with_reducible first | exact HB.out | apply bA_ | apply bN_ | apply bD_ | refine bS_ ?_ GE225.out | refine bS_ ?_ GE239.out) | exact HB.out)) hb); clear HO_6; clear HO_226000; clear HO_226001; clear HO_226002; clear HO_240000; clear HO_240001; clear HO_240002; clear HO243; clear BK225; clear BK239; clear HB; have HO_6 := n0_; have HO_226000 := n1_; have HO_226001 := n2_; have HO_226002 := n3_; have HO_240000 := n4_; have HO_240001 := n5_; have HO_240002 := n6_; have HO243 := n7_; have BK225 := n8_; have BK239 := n9_; have HB := n10_; clear n0_ n1_ n2_ n3_ n4_ n5_ n6_ n7_ n8_ n9_ n10_; (try clear hb); (try clear hb2); (try clear hk); (try clear hi)))
         go_meet
         case rel => exact ⟨_, (true), (by first | rfl | (simp; done) | (simp [*]; done)), H', ⟨by have := HJ7.out; first | omega | exact Nat.le_refl _⟩, ⟨by (with_reducible repeat (first | apply rA_ | apply rN_ | apply rD_)); exact Kd.R_mono HO_226000.out (fun _ hk => hk.2.1)⟩, ⟨by (with_reducible repeat (first | apply rA_ | apply rN_ | apply rD_)); exact HO_226001.out⟩, ⟨by (with_reducible repeat (first | apply rA_ | apply rN_ | apply rD_)); exact HO_226002.out⟩, ⟨by (with_reducible repeat (first | apply rA_ | apply rN_ | apply rD_)); exact Kd.R_mono HO_240000.out (fun _ hk => hk.2.1)⟩, ⟨by (with_reducible repeat (first | apply rA_ | apply rN_ | apply rD_)); exact HO_240001.out⟩, ⟨by (with_reducible repeat (first | apply rA_ | apply rN_ | apply rD_)); exact HO_240002.out⟩, ⟨by (with_reducible repeat (first | apply lN_ | apply lD_ | apply lA_)); exact BK225.out⟩, ⟨by (with_reducible repeat (first | apply lN_ | apply lD_ | apply lA_)); exact BK239.out⟩, ⟨by repeat (first | (with_reducible first | exact HB.out | apply bA_ | apply bN_ | apply bD_ | refine bS_ ?_ GE225.out | refine bS_ ?_ GE239.out) | exact HB.out)⟩⟩
      case rest =>
       clear HC41
       try clear c1
       try clear c2
       try clear p2
       try clear c3
       try clear c3b0
       try clear c4
       try clear c5
       try clear c19
       try clear c20
       try clear c21
       try clear c22
       try clear c23
       try clear c24
       try clear c25
       try clear c27
       try clear c28
       try clear c32
       try clear c36
       try clear c39
       try clear c45
       try clear c45b0
       try clear c47
       try clear c48
       try clear c52
       try clear hcz14_0
       try clear hcz14_1
       try clear hcz14_2
       try clear hcz23_0
       try clear hcz23_1
       try clear hcz23_2
       try clear hcz29_0
       try clear hcz29_1
       try clear hcz29_2
       try clear hcz30_0
       try clear hcz30_1
       try clear hcz30_2
       try clear hcz33_0
       try clear hcz33_1
       try clear hcz33_2
       try clear hcz34_0
       try clear hcz34_1
       try clear hcz34_2
       try clear hcz49_0
       try clear hcz49_1
       try clear hcz49_2
       try clear hcz50_0
       try clear hcz50_1
       try clear hcz50_2
       try clear hcz53_0
       try clear hcz53_1
       try clear hcz53_2
       try clear hcz54_0
       try clear hcz54_1
       try clear hcz54_2
       try clear hfz14_0
       try clear hfz14_1
       try clear hfz14_2
       try clear hfz23_0
       try clear hfz23_1
       try clear hfz23_2
       try clear hfz29_0
       try clear hfz29_1
       try clear hfz29_2
       try clear hfz30_0
       try clear hfz30_1
       try clear hfz30_2
       try clear hfz33_0
       try clear hfz33_1
       try clear hfz33_2
       try clear hfz34_0
       try clear hfz34_1
       try clear hfz34_2
       try clear hfz49_0
       try clear hfz49_1
       try clear hfz49_2
       try clear hfz50_0
       try clear hfz50_1
       try clear hfz50_2
       try clear hfz53_0
       try clear hfz53_1
       try clear hfz53_2
       try clear hfz54_0
       try clear hfz54_1
       try clear hfz54_2
       try clear p2
       obtain ⟨kq, x61_40, rfl, HA, HJ40, HO_226000, HO_226001, HO_226002, HO_240000, HO_240001, HO_240002, BK225, BK239, HB⟩ := hcut
       cases kq with
       | zero => exact absurd HA.out (by simp [laws_FnExactStartDesk.j1])
       | succ kj40 =>
        have H := HA.out
        clear HA
        simp only [laws_FnExactStartDesk.j1] at H
        by_cases c56 : x61_40 = true
        ·subst c56
         have H1 : (none) = some r := by rw [if_pos rfl] at H; exact H
         clear H
         have H := H1
         clear H1
         exact absurd H (by simp)
        ·replace c56 := Bool.eq_false_iff.mpr c56
         subst c56
         have H1 : ((laws_markDesk.f kj40 t229 t232 t235 1).bind fun bt248 => ((laws_heldDesk.f kj40 bt248.2.1 bt248.2.2.1 bt248.2.2.2 1).bind fun t252 => (if t252 < 0 then (none) else (if t252 = bt248.1 then ((laws_toStringS.f kj40 l0).bind fun t253 => ((impl_StartDesk.f kj40 t253).bind fun bt256 => ((laws_eqDesk.f kj40 bt256.1 bt256.2.1 bt256.2.2.1 t215 t218 t221).bind fun t267 => (if t267 = true then (laws_FnExactStartDesk.j2 kj40 bt248.1 (bt256.2.2.2 != t224) bt248.2.1 bt248.2.2.1 bt248.2.2.2) else (laws_FnExactStartDesk.j2 kj40 bt248.1 true bt248.2.1 bt248.2.2.1 bt248.2.2.2))))) else (none))))) = some r := by rw [if_neg (show ¬ (false = true) by decide)] at H; exact H
         clear H
         have H := H1
         clear H1
         replace H := Option.bind_eq_some_iff.mp H
         obtain ⟨⟨t248, t249, t250, t251⟩, A570, H⟩ := H
         replace H : ((laws_heldDesk.f kj40 t249 t250 t251 1).bind fun t252 => (if t252 < 0 then (none) else (if t252 = t248 then ((laws_toStringS.f kj40 l0).bind fun t253 => ((impl_StartDesk.f kj40 t253).bind fun bt256 => ((laws_eqDesk.f kj40 bt256.1 bt256.2.1 bt256.2.2.1 t215 t218 t221).bind fun t267 => (if t267 = true then (laws_FnExactStartDesk.j2 kj40 t248 (bt256.2.2.2 != t224) t249 t250 t251) else (laws_FnExactStartDesk.j2 kj40 t248 true t249 t250 t251))))) else (none)))) = some r := H
         have A57 := Aside0.mk A570
         clear A570
         replace H := Option.bind_eq_some_iff.mp H
         obtain ⟨t252, A580, H⟩ := H
         replace H : (if t252 < 0 then (none) else (if t252 = t248 then ((laws_toStringS.f kj40 l0).bind fun t253 => ((impl_StartDesk.f kj40 t253).bind fun bt256 => ((laws_eqDesk.f kj40 bt256.1 bt256.2.1 bt256.2.2.1 t215 t218 t221).bind fun t267 => (if t267 = true then (laws_FnExactStartDesk.j2 kj40 t248 (bt256.2.2.2 != t224) t249 t250 t251) else (laws_FnExactStartDesk.j2 kj40 t248 true t249 t250 t251))))) else (none))) = some r := H
         have A58 := Aside0.mk A580
         clear A580
         by_cases c59 : t252 < 0
         ·rw [if_pos c59] at H
          exact absurd H (by simp)
         ·rw [if_neg c59] at H
          have c59b0 : decide (t252 < 0) = false := decide_eq_false c59
          clear c59
          by_cases c60 : t252 = t248
          ·rw [if_pos c60] at H
           have c60b0 : (t252 == t248) = true := beq_iff_eq.mpr c60
           have c60b1 : (t252 != t248) = false := bne_eq_false_iff_eq.mpr c60
           clear c60
           replace H := Option.bind_eq_some_iff.mp H
           obtain ⟨t253, A610, H⟩ := H
           replace H : ((impl_StartDesk.f kj40 t253).bind fun bt256 => ((laws_eqDesk.f kj40 bt256.1 bt256.2.1 bt256.2.2.1 t215 t218 t221).bind fun t267 => (if t267 = true then (laws_FnExactStartDesk.j2 kj40 t248 (bt256.2.2.2 != t224) t249 t250 t251) else (laws_FnExactStartDesk.j2 kj40 t248 true t249 t250 t251)))) = some r := H
           have A61 := Aside0.mk A610
           clear A610
           replace H := Option.bind_eq_some_iff.mp H
           obtain ⟨⟨t256, t259, t262, t265⟩, A620, H⟩ := H
           replace H : ((laws_eqDesk.f kj40 t256 t259 t262 t215 t218 t221).bind fun t267 => (if t267 = true then (laws_FnExactStartDesk.j2 kj40 t248 (t265 != t224) t249 t250 t251) else (laws_FnExactStartDesk.j2 kj40 t248 true t249 t250 t251))) = some r := H
           have A62 := Aside0.mk A620
           clear A620
           have HC63 := Aside0.mk H
           clear H
           have hnb64 := NB239_225.out
           have hnc64 := NB225_239.out
           have hcz65_0 : wc.cell? ⟨gb239, 0, none⟩ = some (.slice Ao21 t229.length co21) := (blk_cell BK239.out 0).trans rfl
           have hcz65_1 : wc.cell? ⟨gb239, 1, none⟩ = some (.slice Ao24 t232.length co24) := (blk_cell BK239.out 1).trans rfl
           have hcz65_2 : wc.cell? ⟨gb239, 2, none⟩ = some (.slice Ao25 t235.length co25) := (blk_cell BK239.out 2).trans rfl
           have hfz65_0 := blk_frozen BK239.out 0
           have hfz65_1 := blk_frozen BK239.out 1
           have hfz65_2 := blk_frozen BK239.out 2
           go_upto_region 25 with (first | ((with_reducible refine gate_callee (f := 26) rfl ?_); refine goesL_ (some 64) rfl rfl Try.func26 (by kernel_rfl) rfl #[.agg #[.slice Ao21 t229.length co21, .slice Ao24 t232.length co24, .slice Ao25 t235.length co25], .int .i64 1] rfl (by (try simp only [List.map_toArray, List.map_cons, List.map_nil]); first | done | rfl | (simp only [List.length_drop, List.length_take]; rfl)) ?_; (with_reducible refine (laws_markDesk.calls kj40 (fun k_ => some k_ = (.slice Ao21 t229.length co21 : Value).ownBlock) (.slice Ao21 t229.length co21) t229 (fun k_ => some k_ = (.slice Ao24 t232.length co24 : Value).ownBlock) (.slice Ao24 t232.length co24) t232 (fun k_ => some k_ = (.slice Ao25 t235.length co25 : Value).ownBlock) (.slice Ao25 t235.length co25) t235 1 t248 t249 t250 t251 w _ ?side1 ?side2 ?side3 ?side4 ?side5 ?side6 A57.out).mono ?_); (case side1 => repeat (first | (with_reducible first | exact HB.out | apply bA_ | apply bN_ | apply bD_ | refine bS_ ?_ GE225.out | refine bS_ ?_ GE239.out) | exact HB.out)); (case side2 => exact Kd.R_tight rfl HO_240000.out); (case side3 => exact Kd.R_tight rfl HO_240001.out); (case side4 => exact fun k_ e_ => (HO_240001.out.1 k_ e_.symm).2.2); (case side5 => exact Kd.R_tight rfl HO_240002.out); (case side6 => exact fun k_ e_ => (HO_240002.out.1 k_ e_.symm).2.2); rintro e w66 ⟨rfl, hy0, hy1, hy2, hb, hkp⟩; refine ⟨_, rfl, ?_⟩; have n0_ := Aside0.mk (Kd.R_mono (ok' := fun k_ => some k_ ≠ (.slice Ao21 t229.length co21 : Value).ownBlock) (Kd.R_keptB ((Kd.R_apart' (Kd.R_apart' HO_226000.out (Kd.R_typed HO_240001.out) (by decide)) (Kd.R_typed HO_240002.out) (by decide))) hkp (fun k_ hk_ hs_ => Or.elim hs_ (fun e_ => (hk_.1.1) e_) (fun e_ => Or.elim e_ (fun e_ => (hk_.1.2) e_) (fun e_ => (hk_.2) e_)))) (fun k_ hk_ => hk_.1.1.1)); have n1_ := Aside0.mk (Kd.R_mono (ok' := fun k_ => some k_ ≠ (.slice Ao16 t221.length co16 : Value).ownBlock ∧ some k_ ≠ (.slice Ao24 t232.length co24 : Value).ownBlock ∧ some k_ ≠ (.slice Ao25 t235.length co25 : Value).ownBlock) (Kd.R_keptB ((Kd.R_apart' HO_226001.out (Kd.R_typed HO_240000.out) (by decide))) hkp (fun k_ hk_ hs_ => Or.elim hs_ (fun e_ => (hk_.2) e_) (fun e_ => Or.elim e_ (fun e_ => (hk_.1.2.1) e_) (fun e_ => (hk_.1.2.2) e_)))) (fun k_ hk_ => ⟨hk_.1.1.1, hk_.1.1.2.1, hk_.1.1.2.2⟩)); have n2_ := Aside0.mk (Kd.R_mono (ok' := fun k_ => some k_ ≠ (.slice Ao15 t218.length co15 : Value).ownBlock ∧ some k_ ≠ (.slice Ao24 t232.length co24 : Value).ownBlock ∧ some k_ ≠ (.slice Ao25 t235.length co25 : Value).ownBlock) (Kd.R_keptB ((Kd.R_apart' HO_226002.out (Kd.R_typed HO_240000.out) (by decide))) hkp (fun k_ hk_ hs_ => Or.elim hs_ (fun e_ => (hk_.2) e_) (fun e_ => Or.elim e_ (fun e_ => (hk_.1.2.1) e_) (fun e_ => (hk_.1.2.2) e_)))) (fun k_ hk_ => ⟨hk_.1.1.1, hk_.1.1.2.1, hk_.1.1.2.2⟩)); have n3_ := Aside0.mk (Kd.R_reok rfl hy0 (fun k_ e_ => HO_240000.out.1 k_ e_)); have n4_ := Aside0.mk (Kd.R_reok rfl hy1 (fun k_ e_ => HO_240001.out.1 k_ e_)); have n5_ := Aside0.mk (Kd.R_reok rfl hy2 (fun k_ e_ => HO_240002.out.1 k_ e_)); have n6_ := Aside0.mk (blk_kept (by (with_reducible repeat (first | apply lN_ | apply lD_ | apply lA_)); exact BK225.out) hkp (fun hs_ => Or.elim hs_ (fun e_ => (fun e_ => (Kd.R_ne HO_240000.out BK225.out (by decide)) e_) e_) (fun e_ => Or.elim e_ (fun e_ => (fun e_ => (Kd.R_ne HO_240001.out BK225.out (by decide)) e_) e_) (fun e_ => (fun e_ => (Kd.R_ne HO_240002.out BK225.out (by decide)) e_) e_)))); have n7_ := Aside0.mk (blk_kept (by (with_reducible repeat (first | apply lN_ | apply lD_ | apply lA_)); exact BK239.out) hkp (fun hs_ => Or.elim hs_ (fun e_ => (fun e_ => (Kd.R_ne HO_240000.out BK239.out (by decide)) e_) e_) (fun e_ => Or.elim e_ (fun e_ => (fun e_ => (Kd.R_ne HO_240001.out BK239.out (by decide)) e_) e_) (fun e_ => (fun e_ => (Kd.R_ne HO_240002.out BK239.out (by decide)) e_) e_)))); have n8_ := Aside0.mk (hb); clear HO_226000; clear HO_226001; clear HO_226002; clear HO_240000; clear HO_240001; clear HO_240002; clear BK225; clear BK239; clear HB; have HO_226000 := n0_; have HO_226001 := n1_; have HO_226002 := n2_; have HO_240000 := n3_; have HO_240001 := n4_; have HO_240002 := n5_; have BK225 := n6_; have BK239 := n7_; have HB := n8_; clear n0_ n1_ n2_ n3_ n4_ n5_ n6_ n7_ n8_; (try clear hb); (try clear hkp); (try clear hy0); (try clear hy1); (try clear hy2); have hcz67_0 : w66.cell? ⟨gb239, 0, none⟩ = some (.slice Ao21 t229.length co21) := (blk_cell BK239.out 0).trans rfl; have hcz67_1 : w66.cell? ⟨gb239, 1, none⟩ = some (.slice Ao24 t232.length co24) := (blk_cell BK239.out 1).trans rfl; have hcz67_2 : w66.cell? ⟨gb239, 2, none⟩ = some (.slice Ao25 t235.length co25) := (blk_cell BK239.out 2).trans rfl; have hfz67_0 := blk_frozen BK239.out 0; have hfz67_1 := blk_frozen BK239.out 1; have hfz67_2 := blk_frozen BK239.out 2) | ((with_reducible refine gate_callee (f := 27) rfl ?_); refine goesL_ (some 67) rfl rfl Try.func27 (by kernel_rfl) rfl #[.agg #[.slice Ao21 t249.length co21, .slice Ao24 t250.length co24, .slice Ao25 t251.length co25], .int .i64 1] rfl (by (try simp only [List.map_toArray, List.map_cons, List.map_nil]); first | done | (rw [show t249.length = t229.length from (Kd.R_reads' HO_240000.out).1.symm, show t250.length = t232.length from (Kd.R_reads' HO_240001.out).1.symm, show t251.length = t235.length from (Kd.R_reads' HO_240002.out).1.symm] <;> rfl) | rfl | (simp only [List.length_drop, List.length_take]; rfl)) ?_; (with_reducible refine (laws_heldDesk.calls kj40 _ _ t249 _ _ t250 _ _ t251 1 t252 _ ?side1 ?side2 ?side3 ?side4 ?side5 ?side6 A58.out).mono ?_); (case side1 => repeat (first | exact (Kd.R_reads' HO_240000.out).2.2 | (with_reducible first | apply cA_ | apply cN_ | apply cD_))); (case side2 => rw [show t249.length = t229.length from (Kd.R_reads' HO_240000.out).1.symm]; exact (Kd.R_reads' HO_240000.out).2.1); (case side3 => repeat (first | exact (Kd.R_reads' HO_240001.out).2.2 | (with_reducible first | apply cA_ | apply cN_ | apply cD_))); (case side4 => rw [show t250.length = t232.length from (Kd.R_reads' HO_240001.out).1.symm]; exact (Kd.R_reads' HO_240001.out).2.1); (case side5 => repeat (first | exact (Kd.R_reads' HO_240002.out).2.2 | (with_reducible first | apply cA_ | apply cN_ | apply cD_))); (case side6 => rw [show t251.length = t235.length from (Kd.R_reads' HO_240002.out).1.symm]; exact (Kd.R_reads' HO_240002.out).2.1); rintro e w68 ⟨rfl, hb⟩; refine ⟨_, rfl, ?_⟩; have n0_ := Aside0.mk (Kd.R_below (by (with_reducible repeat (first | apply rA_ | apply rN_ | apply rD_)); exact HO_226000.out) hb); have n1_ := Aside0.mk (Kd.R_below (by (with_reducible repeat (first | apply rA_ | apply rN_ | apply rD_)); exact HO_226001.out) hb); have n2_ := Aside0.mk (Kd.R_below (by (with_reducible repeat (first | apply rA_ | apply rN_ | apply rD_)); exact HO_226002.out) hb); have n3_ := Aside0.mk (Kd.R_below (by (with_reducible repeat (first | apply rA_ | apply rN_ | apply rD_)); exact HO_240000.out) hb); have n4_ := Aside0.mk (Kd.R_below (by (with_reducible repeat (first | apply rA_ | apply rN_ | apply rD_)); exact HO_240001.out) hb); have n5_ := Aside0.mk (Kd.R_below (by (with_reducible repeat (first | apply rA_ | apply rN_ | apply rD_)); exact HO_240002.out) hb); have n6_ := Aside0.mk (blk_below (g := gb225) (o := .cells #[.slice Ao13 t215.length co13, .slice Ao15 t218.length co15, .slice Ao16 t221.length co16] 35 (0, 0)) (by (with_reducible repeat (first | apply lN_ | apply lD_ | apply lA_)); exact BK225.out) hb); have n7_ := Aside0.mk (blk_below (g := gb239) (o := .cells #[.slice Ao21 t229.length co21, .slice Ao24 t232.length co24, .slice Ao25 t235.length co25] 35 (0, 0)) (by (with_reducible repeat (first | apply lN_ | apply lD_ | apply lA_)); exact BK239.out) hb); have n8_ := Aside0.mk (below_step (by repeat (first | (with_reducible first | exact HB.out | apply bA_ | apply bN_ | apply bD_ | refine bS_ ?_ GE225.out | refine bS_ ?_ GE239.out) | exact HB.out)) hb); clear HO_226000; clear HO_226001; clear HO_226002; clear HO_240000; clear HO_240001; clear HO_240002; clear BK225; clear BK239; clear HB; have HO_226000 := n0_; have HO_226001 := n1_; have HO_226002 := n2_; have HO_240000 := n3_; have HO_240001 := n4_; have HO_240002 := n5_; have BK225 := n6_; have BK239 := n7_; have HB := n8_; clear n0_ n1_ n2_ n3_ n4_ n5_ n6_ n7_ n8_; (try clear hb); (try clear hb2); (try clear hk); (try clear hi)) | ((with_reducible refine gate_callee (f := 21) rfl ?_); refine goesL_ (some 75) rfl rfl Try.func21 (by kernel_rfl) rfl #[.slice A0 l0.length c0] rfl (by (try simp only [List.map_toArray, List.map_cons, List.map_nil]); first | done | rfl | (simp only [List.length_drop, List.length_take]; rfl)) ?_; (with_reducible refine (laws_toStringS.calls kj40 _ _ l0 t253 _ ?side1 ?side2 A61.out).mono ?_); (case side1 => repeat (first | exact (Kd.C_below HR0.out HB.out) | (with_reducible first | apply cA_ | apply cN_ | apply cD_))); (case side2 => exact HC0.out); rintro e w69 ⟨v254, rfl, ho0, hb⟩; refine ⟨_, rfl, ?_⟩; have n0_ := Aside0.mk (Kd.R_elder' (by (with_reducible repeat (first | apply rA_ | apply rN_ | apply rD_)); exact HO_226000.out) (Kd.R_base ho0) hb); have n1_ := Aside0.mk (Kd.R_below (by (with_reducible repeat (first | apply rA_ | apply rN_ | apply rD_)); exact HO_226001.out) hb); have n2_ := Aside0.mk (Kd.R_below (by (with_reducible repeat (first | apply rA_ | apply rN_ | apply rD_)); exact HO_226002.out) hb); have n3_ := Aside0.mk (Kd.R_elder' (by (with_reducible repeat (first | apply rA_ | apply rN_ | apply rD_)); exact HO_240000.out) (Kd.R_base ho0) hb); have n4_ := Aside0.mk (Kd.R_below (by (with_reducible repeat (first | apply rA_ | apply rN_ | apply rD_)); exact HO_240001.out) hb); have n5_ := Aside0.mk (Kd.R_below (by (with_reducible repeat (first | apply rA_ | apply rN_ | apply rD_)); exact HO_240002.out) hb); have n6_ := Aside0.mk (Kd.R_lower (Kd.R_new' (Kd.R_new' ho0 (Kd.R_lt (by (with_reducible repeat (first | apply rA_ | apply rN_ | apply rD_)); exact HO_226000.out))) (Kd.R_lt (by (with_reducible repeat (first | apply rA_ | apply rN_ | apply rD_)); exact HO_240000.out))) (below_size (by repeat (first | (with_reducible first | exact HB.out | apply bA_ | apply bN_ | apply bD_ | refine bS_ ?_ GE225.out | refine bS_ ?_ GE239.out) | exact HB.out)))); have n7_ := Aside0.mk (blk_below (g := gb225) (o := .cells #[.slice Ao13 t215.length co13, .slice Ao15 t218.length co15, .slice Ao16 t221.length co16] 35 (0, 0)) (by (with_reducible repeat (first | apply lN_ | apply lD_ | apply lA_)); exact BK225.out) hb); have n8_ := Aside0.mk (blk_below (g := gb239) (o := .cells #[.slice Ao21 t229.length co21, .slice Ao24 t232.length co24, .slice Ao25 t235.length co25] 35 (0, 0)) (by (with_reducible repeat (first | apply lN_ | apply lD_ | apply lA_)); exact BK239.out) hb); have n9_ := Aside0.mk (below_step (by repeat (first | (with_reducible first | exact HB.out | apply bA_ | apply bN_ | apply bD_ | refine bS_ ?_ GE225.out | refine bS_ ?_ GE239.out) | exact HB.out)) hb); clear HO_226000; clear HO_226001; clear HO_226002; clear HO_240000; clear HO_240001; clear HO_240002; clear BK225; clear BK239; clear HB; have HO_226000 := n0_; have HO_226001 := n1_; have HO_226002 := n2_; have HO_240000 := n3_; have HO_240001 := n4_; have HO_240002 := n5_; have HO255 := n6_; have BK225 := n7_; have BK239 := n8_; have HB := n9_; clear n0_ n1_ n2_ n3_ n4_ n5_ n6_ n7_ n8_ n9_; (try clear hb); (try clear hb2); (try clear hk); (try clear hi); (try clear ho0); obtain ⟨Ao70, co70, eo70⟩ := Kd.R_slice HO255.out; subst eo70) | ((with_reducible refine gate_callee (f := 22) rfl ?_); refine goesL_ (some 76) rfl rfl Try.func22 (by kernel_rfl) rfl #[.slice Ao70 t253.length co70] rfl (by (try simp only [List.map_toArray, List.map_cons, List.map_nil]); first | done | rfl | (simp only [List.length_drop, List.length_take]; rfl)) ?_; (with_reducible refine (impl_StartDesk.calls kj40 _ _ t253 t256 t259 t262 t265 _ ?side1 ?side2 A62.out).mono ?_); (case side1 => repeat (first | exact (Kd.R_reads' HO255.out).2.2 | (with_reducible first | apply cA_ | apply cN_ | apply cD_))); (case side2 => exact (Kd.R_reads' HO255.out).2.1); rintro e w71 ⟨v257, v260, v263, rfl, ho0, ho1, ho2, hb⟩; refine ⟨_, rfl, ?_⟩; have n0_ := Aside0.mk (Kd.R_elder' (by (with_reducible repeat (first | apply rA_ | apply rN_ | apply rD_)); exact HO_226000.out) (Kd.R_base ho0) hb); have n1_ := Aside0.mk (Kd.R_mono (Kd.R_told (Kd.R_told (Kd.R_old (by (with_reducible repeat (first | apply rA_ | apply rN_ | apply rD_)); exact HO_226001.out) hb) (Kd.R_base ho1)) (Kd.R_base ho2)) (fun _ h_ => h_.1)); have n2_ := Aside0.mk (Kd.R_mono (Kd.R_told (Kd.R_told (Kd.R_old (by (with_reducible repeat (first | apply rA_ | apply rN_ | apply rD_)); exact HO_226002.out) hb) (Kd.R_base ho1)) (Kd.R_base ho2)) (fun _ h_ => h_.1)); have n3_ := Aside0.mk (Kd.R_elder' (by (with_reducible repeat (first | apply rA_ | apply rN_ | apply rD_)); exact HO_240000.out) (Kd.R_base ho0) hb); have n4_ := Aside0.mk (Kd.R_mono (Kd.R_told (Kd.R_told (Kd.R_old (by (with_reducible repeat (first | apply rA_ | apply rN_ | apply rD_)); exact HO_240001.out) hb) (Kd.R_base ho1)) (Kd.R_base ho2)) (fun _ h_ => h_.1)); have n5_ := Aside0.mk (Kd.R_mono (Kd.R_told (Kd.R_told (Kd.R_old (by (with_reducible repeat (first | apply rA_ | apply rN_ | apply rD_)); exact HO_240002.out) hb) (Kd.R_base ho1)) (Kd.R_base ho2)) (fun _ h_ => h_.1)); have n6_ := Aside0.mk (Kd.R_elder' (by (with_reducible repeat (first | apply rA_ | apply rN_ | apply rD_)); exact HO255.out) (Kd.R_base ho0) hb); have n7_ := Aside0.mk (Kd.R_lower (Kd.R_new' (Kd.R_new' (Kd.R_new' ho0 (Kd.R_lt (by (with_reducible repeat (first | apply rA_ | apply rN_ | apply rD_)); exact HO_226000.out))) (Kd.R_lt (by (with_reducible repeat (first | apply rA_ | apply rN_ | apply rD_)); exact HO_240000.out))) (Kd.R_lt (by (with_reducible repeat (first | apply rA_ | apply rN_ | apply rD_)); exact HO255.out))) (below_size (by repeat (first | (with_reducible first | exact HB.out | apply bA_ | apply bN_ | apply bD_ | refine bS_ ?_ GE225.out | refine bS_ ?_ GE239.out) | exact HB.out)))); have n8_ := Aside0.mk (Kd.R_lower (Kd.R_new' (Kd.R_new' (Kd.R_new' (Kd.R_new' ho1 (Kd.R_lt (by (with_reducible repeat (first | apply rA_ | apply rN_ | apply rD_)); exact HO_226001.out))) (Kd.R_lt (by (with_reducible repeat (first | apply rA_ | apply rN_ | apply rD_)); exact HO_226002.out))) (Kd.R_lt (by (with_reducible repeat (first | apply rA_ | apply rN_ | apply rD_)); exact HO_240001.out))) (Kd.R_lt (by (with_reducible repeat (first | apply rA_ | apply rN_ | apply rD_)); exact HO_240002.out))) (below_size (by repeat (first | (with_reducible first | exact HB.out | apply bA_ | apply bN_ | apply bD_ | refine bS_ ?_ GE225.out | refine bS_ ?_ GE239.out) | exact HB.out)))); have n9_ := Aside0.mk (Kd.R_lower (Kd.R_new' (Kd.R_new' (Kd.R_new' (Kd.R_new' ho2 (Kd.R_lt (by (with_reducible repeat (first | apply rA_ | apply rN_ | apply rD_)); exact HO_226001.out))) (Kd.R_lt (by (with_reducible repeat (first | apply rA_ | apply rN_ | apply rD_)); exact HO_226002.out))) (Kd.R_lt (by (with_reducible repeat (first | apply rA_ | apply rN_ | apply rD_)); exact HO_240001.out))) (Kd.R_lt (by (with_reducible repeat (first | apply rA_ | apply rN_ | apply rD_)); exact HO_240002.out))) (below_size (by repeat (first | (with_reducible first | exact HB.out | apply bA_ | apply bN_ | apply bD_ | refine bS_ ?_ GE225.out | refine bS_ ?_ GE239.out) | exact HB.out)))); have n10_ := Aside0.mk (blk_below (g := gb225) (o := .cells #[.slice Ao13 t215.length co13, .slice Ao15 t218.length co15, .slice Ao16 t221.length co16] 35 (0, 0)) (by (with_reducible repeat (first | apply lN_ | apply lD_ | apply lA_)); exact BK225.out) hb); have n11_ := Aside0.mk (blk_below (g := gb239) (o := .cells #[.slice Ao21 t229.length co21, .slice Ao24 t232.length co24, .slice Ao25 t235.length co25] 35 (0, 0)) (by (with_reducible repeat (first | apply lN_ | apply lD_ | apply lA_)); exact BK239.out) hb); have n12_ := Aside0.mk (below_step (by repeat (first | (with_reducible first | exact HB.out | apply bA_ | apply bN_ | apply bD_ | refine bS_ ?_ GE225.out | refine bS_ ?_ GE239.out) | exact HB.out)) hb); clear HO_226000; clear HO_226001; clear HO_226002; clear HO_240000; clear HO_240001; clear HO_240002; clear HO255; clear BK225; clear BK239; clear HB; have HO_226000 := n0_; have HO_226001 := n1_; have HO_226002 := n2_; have HO_240000 := n3_; have HO_240001 := n4_; have HO_240002 := n5_; have HO255 := n6_; have HO258 := n7_; have HO261 := n8_; have HO264 := n9_; have BK225 := n10_; have BK239 := n11_; have HB := n12_; clear n0_ n1_ n2_ n3_ n4_ n5_ n6_ n7_ n8_ n9_ n10_ n11_ n12_; (try clear hb); (try clear hb2); (try clear hk); (try clear hi); (try clear ho0); (try clear ho1); (try clear ho2)) | ((with_reducible refine gate_dst (N := 12) rfl ?_); refine box_event ?hg (N := 12) ?hd (cs := #[.slice none 0 0, .slice none 0 0, .slice none 0 0]) (t := 35) ?hr ?_; (case hd => rfl); (case hg => rfl); (case hr => first | (go_simp; done) | (go_simp; rfl)); intro gb266 hg w72 hbox hb; have n0_ := Aside0.mk (Kd.R_below (by (with_reducible repeat (first | apply rA_ | apply rN_ | apply rD_)); exact HO_226000.out) hb); have n1_ := Aside0.mk (Kd.R_below (by (with_reducible repeat (first | apply rA_ | apply rN_ | apply rD_)); exact HO_226001.out) hb); have n2_ := Aside0.mk (Kd.R_below (by (with_reducible repeat (first | apply rA_ | apply rN_ | apply rD_)); exact HO_226002.out) hb); have n3_ := Aside0.mk (Kd.R_below (by (with_reducible repeat (first | apply rA_ | apply rN_ | apply rD_)); exact HO_240000.out) hb); have n4_ := Aside0.mk (Kd.R_below (by (with_reducible repeat (first | apply rA_ | apply rN_ | apply rD_)); exact HO_240001.out) hb); have n5_ := Aside0.mk (Kd.R_below (by (with_reducible repeat (first | apply rA_ | apply rN_ | apply rD_)); exact HO_240002.out) hb); have n6_ := Aside0.mk (Kd.R_below (by (with_reducible repeat (first | apply rA_ | apply rN_ | apply rD_)); exact HO255.out) hb); have n7_ := Aside0.mk (Kd.R_below (by (with_reducible repeat (first | apply rA_ | apply rN_ | apply rD_)); exact HO258.out) hb); have n8_ := Aside0.mk (Kd.R_below (by (with_reducible repeat (first | apply rA_ | apply rN_ | apply rD_)); exact HO261.out) hb); have n9_ := Aside0.mk (Kd.R_below (by (with_reducible repeat (first | apply rA_ | apply rN_ | apply rD_)); exact HO264.out) hb); have n10_ := Aside0.mk (blk_below (g := gb225) (o := .cells #[.slice Ao13 t215.length co13, .slice Ao15 t218.length co15, .slice Ao16 t221.length co16] 35 (0, 0)) (by (with_reducible repeat (first | apply lN_ | apply lD_ | apply lA_)); exact BK225.out) hb); have n11_ := Aside0.mk (blk_below (g := gb239) (o := .cells #[.slice Ao21 t229.length co21, .slice Ao24 t232.length co24, .slice Ao25 t235.length co25] 35 (0, 0)) (by (with_reducible repeat (first | apply lN_ | apply lD_ | apply lA_)); exact BK239.out) hb); have n12_ := Aside0.mk (below_step (by repeat (first | (with_reducible first | exact HB.out | apply bA_ | apply bN_ | apply bD_ | refine bS_ ?_ GE225.out | refine bS_ ?_ GE239.out) | exact HB.out)) hb); have n13_ := Aside0.mk (hbox); have n14_ := Aside0.mk ((by rw [hg]; exact (below_size (by repeat (first | (with_reducible first | exact HB.out | apply bA_ | apply bN_ | apply bD_ | refine bS_ ?_ GE225.out | refine bS_ ?_ GE239.out) | exact HB.out))) : w.heap.size ≤ gb266)); have n15_ := Aside0.mk ((by rw [hg]; exact (below_size (by repeat (first | (with_reducible first | exact HB.out | apply bA_ | apply bN_ | apply bD_ | refine bS_ ?_ GE225.out | refine bS_ ?_ GE239.out) | exact HB.out))) : w.heap.size ≤ gb266)); have n16_ := Aside0.mk ((by rw [hg]; exact Nat.ne_of_lt (blk_lt (g := gb225) (o := .cells #[.slice Ao13 t215.length co13, .slice Ao15 t218.length co15, .slice Ao16 t221.length co16] 35 (0, 0)) (by (with_reducible repeat (first | apply lN_ | apply lD_ | apply lA_)); exact BK225.out)) : gb225 ≠ gb266)); have n17_ := Aside0.mk ((by rw [hg]; exact Nat.ne_of_gt (blk_lt (g := gb225) (o := .cells #[.slice Ao13 t215.length co13, .slice Ao15 t218.length co15, .slice Ao16 t221.length co16] 35 (0, 0)) (by (with_reducible repeat (first | apply lN_ | apply lD_ | apply lA_)); exact BK225.out)) : gb266 ≠ gb225)); have n18_ := Aside0.mk ((by rw [hg]; exact Nat.ne_of_lt (blk_lt (g := gb239) (o := .cells #[.slice Ao21 t229.length co21, .slice Ao24 t232.length co24, .slice Ao25 t235.length co25] 35 (0, 0)) (by (with_reducible repeat (first | apply lN_ | apply lD_ | apply lA_)); exact BK239.out)) : gb239 ≠ gb266)); have n19_ := Aside0.mk ((by rw [hg]; exact Nat.ne_of_gt (blk_lt (g := gb239) (o := .cells #[.slice Ao21 t229.length co21, .slice Ao24 t232.length co24, .slice Ao25 t235.length co25] 35 (0, 0)) (by (with_reducible repeat (first | apply lN_ | apply lD_ | apply lA_)); exact BK239.out)) : gb266 ≠ gb239)); clear HO_226000; clear HO_226001; clear HO_226002; clear HO_240000; clear HO_240001; clear HO_240002; clear HO255; clear HO258; clear HO261; clear HO264; clear BK225; clear BK239; clear HB; have HO_226000 := n0_; have HO_226001 := n1_; have HO_226002 := n2_; have HO_240000 := n3_; have HO_240001 := n4_; have HO_240002 := n5_; have HO255 := n6_; have HO258 := n7_; have HO261 := n8_; have HO264 := n9_; have BK225 := n10_; have BK239 := n11_; have HB := n12_; have BK266 := n13_; have GW266 := n14_; have GE266 := n15_; have NB225_266 := n16_; have NB266_225 := n17_; have NB239_266 := n18_; have NB266_239 := n19_; clear n0_ n1_ n2_ n3_ n4_ n5_ n6_ n7_ n8_ n9_ n10_ n11_ n12_ n13_ n14_ n15_ n16_ n17_ n18_ n19_; clear hb hbox hg; obtain ⟨Ao73, co73, eo73⟩ := Kd.R_slice HO258.out; subst eo73; have hnb74 := NB266_225.out; have hnc74 := NB225_266.out; have hnb75 := NB266_239.out; have hnc75 := NB239_266.out; have hcz76_0 : w72.cell? ⟨gb266, 0, none⟩ = some (.slice none 0 0) := (blk_cell BK266.out 0).trans rfl; have hcz76_1 : w72.cell? ⟨gb266, 1, none⟩ = some (.slice none 0 0) := (blk_cell BK266.out 1).trans rfl; have hcz76_2 : w72.cell? ⟨gb266, 2, none⟩ = some (.slice none 0 0) := (blk_cell BK266.out 2).trans rfl; have hfz76_0 := blk_frozen BK266.out 0; have hfz76_1 := blk_frozen BK266.out 1; have hfz76_2 := blk_frozen BK266.out 2; obtain ⟨Ao77, co77, eo77⟩ := Kd.R_slice HO261.out; subst eo77; obtain ⟨Ao78, co78, eo78⟩ := Kd.R_slice HO264.out; subst eo78))
           (try simp only [Act.put, List.setIfInBounds_toArray, List.set_cons_zero, List.set_cons_succ])
           go_cut [87] (fun v87 wc => ∃ (kq : Nat) (x87_62 : Bool), v87 = .bool x87_62 ∧ Aside0 (laws_FnExactStartDesk.j2 kq t248 x87_62 t249 t250 t251 = some r) ∧ Aside0 (kq ≤ kj40) ∧ Aside0 (Kd.R Kd.string 9 wc w.heap.size (fun k_ => some k_ ≠ ((.slice Ao21 t229.length co21) : Value).ownBlock ∧ some k_ ≠ ((.slice Ao73 t256.length co73) : Value).ownBlock) (.slice Ao13 t215.length co13) t215) ∧ Aside0 (Kd.R k25 25 wc w.heap.size (fun k_ => some k_ ≠ ((.slice Ao16 t221.length co16) : Value).ownBlock ∧ some k_ ≠ ((.slice Ao24 t232.length co24) : Value).ownBlock ∧ some k_ ≠ ((.slice Ao25 t235.length co25) : Value).ownBlock ∧ some k_ ≠ ((.slice Ao77 t259.length co77) : Value).ownBlock ∧ some k_ ≠ ((.slice Ao78 t262.length co78) : Value).ownBlock) (.slice Ao15 t218.length co15) t218) ∧ Aside0 (Kd.R k25 25 wc w.heap.size (fun k_ => some k_ ≠ ((.slice Ao15 t218.length co15) : Value).ownBlock ∧ some k_ ≠ ((.slice Ao24 t232.length co24) : Value).ownBlock ∧ some k_ ≠ ((.slice Ao25 t235.length co25) : Value).ownBlock ∧ some k_ ≠ ((.slice Ao77 t259.length co77) : Value).ownBlock ∧ some k_ ≠ ((.slice Ao78 t262.length co78) : Value).ownBlock) (.slice Ao16 t221.length co16) t221) ∧ Aside0 (Kd.R Kd.string 9 wc w.heap.size (fun k_ => some k_ ≠ ((.slice Ao13 t215.length co13) : Value).ownBlock ∧ some k_ ≠ ((.slice Ao73 t256.length co73) : Value).ownBlock) (.slice Ao21 t229.length co21) t249) ∧ Aside0 (Kd.R k25 25 wc w.heap.size (fun k_ => some k_ ≠ ((.slice Ao15 t218.length co15) : Value).ownBlock ∧ some k_ ≠ ((.slice Ao16 t221.length co16) : Value).ownBlock ∧ some k_ ≠ ((.slice Ao25 t235.length co25) : Value).ownBlock ∧ some k_ ≠ ((.slice Ao77 t259.length co77) : Value).ownBlock ∧ some k_ ≠ ((.slice Ao78 t262.length co78) : Value).ownBlock) (.slice Ao24 t232.length co24) t250) ∧ Aside0 (Kd.R k25 25 wc w.heap.size (fun k_ => some k_ ≠ ((.slice Ao15 t218.length co15) : Value).ownBlock ∧ some k_ ≠ ((.slice Ao16 t221.length co16) : Value).ownBlock ∧ some k_ ≠ ((.slice Ao24 t232.length co24) : Value).ownBlock ∧ some k_ ≠ ((.slice Ao77 t259.length co77) : Value).ownBlock ∧ some k_ ≠ ((.slice Ao78 t262.length co78) : Value).ownBlock) (.slice Ao25 t235.length co25) t251) ∧ Aside0 (Kd.R Kd.string 9 wc w.heap.size (fun k_ => some k_ ≠ ((.slice Ao13 t215.length co13) : Value).ownBlock ∧ some k_ ≠ ((.slice Ao21 t229.length co21) : Value).ownBlock) (.slice Ao73 t256.length co73) t256) ∧ Aside0 (Kd.R k25 25 wc w.heap.size (fun k_ => some k_ ≠ ((.slice Ao15 t218.length co15) : Value).ownBlock ∧ some k_ ≠ ((.slice Ao16 t221.length co16) : Value).ownBlock ∧ some k_ ≠ ((.slice Ao24 t232.length co24) : Value).ownBlock ∧ some k_ ≠ ((.slice Ao25 t235.length co25) : Value).ownBlock ∧ some k_ ≠ ((.slice Ao78 t262.length co78) : Value).ownBlock) (.slice Ao77 t259.length co77) t259) ∧ Aside0 (Kd.R k25 25 wc w.heap.size (fun k_ => some k_ ≠ ((.slice Ao15 t218.length co15) : Value).ownBlock ∧ some k_ ≠ ((.slice Ao16 t221.length co16) : Value).ownBlock ∧ some k_ ≠ ((.slice Ao24 t232.length co24) : Value).ownBlock ∧ some k_ ≠ ((.slice Ao25 t235.length co25) : Value).ownBlock ∧ some k_ ≠ ((.slice Ao77 t259.length co77) : Value).ownBlock) (.slice Ao78 t262.length co78) t262) ∧ Aside0 (wc.heap[gb225]? = some (.cells #[(.slice Ao13 t215.length co13), (.slice Ao15 t218.length co15), (.slice Ao16 t221.length co16)] 35 (0, 0))) ∧ Aside0 (wc.heap[gb239]? = some (.cells #[(.slice Ao21 t229.length co21), (.slice Ao24 t232.length co24), (.slice Ao25 t235.length co25)] 35 (0, 0))) ∧ Aside0 (wc.heap[gb266]? = some (.cells #[(.slice Ao73 t256.length co73), (.slice Ao77 t259.length co77), (.slice Ao78 t262.length co78)] 35 (0, 0))) ∧ Aside0 (Below w.heap.size w wc))
           case first =>
            have H := HC63.out
            clear HC63
            replace H := Option.bind_eq_some_iff.mp H
            obtain ⟨t267, A790, H⟩ := H
            replace H : (if t267 = true then (laws_FnExactStartDesk.j2 kj40 t248 (t265 != t224) t249 t250 t251) else (laws_FnExactStartDesk.j2 kj40 t248 true t249 t250 t251)) = some r := H
            have A79 := Aside0.mk A790
            clear A790
            by_cases c80 : t267 = true
            ·subst c80
             have H1 : (laws_FnExactStartDesk.j2 kj40 t248 (t265 != t224) t249 t250 t251) = some r := by rw [if_pos rfl] at H; exact H
             clear H
             have H := H1
             clear H1
             have H' := Aside0.mk H
             clear H
             have hnb81 := NB266_225.out
             have hnc81 := NB225_266.out
             have hnb82 := NB266_239.out
             have hnc82 := NB239_266.out
             have hcz83_0 : w72.cell? ⟨gb266, 0, none⟩ = some (.slice none 0 0) := (blk_cell BK266.out 0).trans rfl
             have hcz83_1 : w72.cell? ⟨gb266, 1, none⟩ = some (.slice none 0 0) := (blk_cell BK266.out 1).trans rfl
             have hcz83_2 : w72.cell? ⟨gb266, 2, none⟩ = some (.slice none 0 0) := (blk_cell BK266.out 2).trans rfl
             have hfz83_0 := blk_frozen BK266.out 0
             have hfz83_1 := blk_frozen BK266.out 1
             have hfz83_2 := blk_frozen BK266.out 2
             have hnb84 := NB225_239.out
             have hnc84 := NB239_225.out
             have hcz85_0 : w72.cell? ⟨gb225, 0, none⟩ = some (.slice Ao13 t215.length co13) := (blk_cell BK225.out 0).trans rfl
             have hcz85_1 : w72.cell? ⟨gb225, 1, none⟩ = some (.slice Ao15 t218.length co15) := (blk_cell BK225.out 1).trans rfl
             have hcz85_2 : w72.cell? ⟨gb225, 2, none⟩ = some (.slice Ao16 t221.length co16) := (blk_cell BK225.out 2).trans rfl
             have hfz85_0 := blk_frozen BK225.out 0
             have hfz85_1 := blk_frozen BK225.out 1
             have hfz85_2 := blk_frozen BK225.out 2
             go_wp2_with (first | ((with_reducible refine gate_callee (f := 23) rfl ?_); refine goesL_ (some 81) rfl rfl Try.func23 (by kernel_rfl) rfl #[.agg #[.slice Ao73 t256.length co73, .slice Ao77 t259.length co77, .slice Ao78 t262.length co78], .agg #[.slice Ao13 t215.length co13, .slice Ao15 t218.length co15, .slice Ao16 t221.length co16]] rfl (by (try simp only [List.map_toArray, List.map_cons, List.map_nil]); first | done | rfl | (simp only [List.length_drop, List.length_take]; rfl)) ?_; (with_reducible refine (laws_eqDesk.calls kj40 _ _ t256 _ _ t259 _ _ t262 _ _ t215 _ _ t218 _ _ t221 true _ ?side1 ?side2 ?side3 ?side4 ?side5 ?side6 ?side7 ?side8 ?side9 ?side10 ?side11 ?side12 A79.out).mono ?_); (case side1 => refine (Kd.R_reads' (e := 9) (base := w.heap.size) (ok := fun k_ => (((True ∧ some k_ ≠ (.slice Ao13 t215.length co13 : Value).ownBlock) ∧ some k_ ≠ (.slice Ao21 t229.length co21 : Value).ownBlock) ∧ some k_ ≠ (.slice Ao70 t253.length co70 : Value).ownBlock)) (n := t256.length) (c := co73) ?_).2.2; exact (by (with_reducible repeat (first | apply rA_ | apply rN_ | apply rD_)); exact (Kd.R_mono (Kd.R_far (p := ⟨gb266, 2, none⟩) (Kd.R_far (p := ⟨gb266, 1, none⟩) (Kd.R_far (p := ⟨gb266, 0, none⟩) (Kd.R_types HO258.out BK266.out (by decide)) (fun _ hk => hk.2) (.slice Ao73 t256.length co73)) (fun _ hk => hk.2) (.slice Ao77 t259.length co77)) (fun _ hk => hk.2) (.slice Ao78 t262.length co78)) (fun _ h_ => h_.1)))); (case side2 => exact (Kd.R_reads' HO258.out).2.1); (case side3 => refine (Kd.R_reads' (e := 25) (base := w.heap.size) (ok := fun k_ => ((((some k_ ≠ (.slice Ao78 t262.length co78 : Value).ownBlock ∧ some k_ ≠ (.slice Ao15 t218.length co15 : Value).ownBlock) ∧ some k_ ≠ (.slice Ao16 t221.length co16 : Value).ownBlock) ∧ some k_ ≠ (.slice Ao24 t232.length co24 : Value).ownBlock) ∧ some k_ ≠ (.slice Ao25 t235.length co25 : Value).ownBlock)) (n := t259.length) (c := co77) ?_).2.2; exact (by (with_reducible repeat (first | apply rA_ | apply rN_ | apply rD_)); exact (Kd.R_mono (Kd.R_far (p := ⟨gb266, 2, none⟩) (Kd.R_far (p := ⟨gb266, 1, none⟩) (Kd.R_far (p := ⟨gb266, 0, none⟩) (Kd.R_types HO261.out BK266.out (by decide)) (fun _ hk => hk.2) (.slice Ao73 t256.length co73)) (fun _ hk => hk.2) (.slice Ao77 t259.length co77)) (fun _ hk => hk.2) (.slice Ao78 t262.length co78)) (fun _ h_ => h_.1)))); (case side4 => exact (Kd.R_reads' HO261.out).2.1); (case side5 => refine (Kd.R_reads' (e := 25) (base := w.heap.size) (ok := fun k_ => ((((some k_ ≠ (.slice Ao77 t259.length co77 : Value).ownBlock ∧ some k_ ≠ (.slice Ao15 t218.length co15 : Value).ownBlock) ∧ some k_ ≠ (.slice Ao16 t221.length co16 : Value).ownBlock) ∧ some k_ ≠ (.slice Ao24 t232.length co24 : Value).ownBlock) ∧ some k_ ≠ (.slice Ao25 t235.length co25 : Value).ownBlock)) (n := t262.length) (c := co78) ?_).2.2; exact (by (with_reducible repeat (first | apply rA_ | apply rN_ | apply rD_)); exact (Kd.R_mono (Kd.R_far (p := ⟨gb266, 2, none⟩) (Kd.R_far (p := ⟨gb266, 1, none⟩) (Kd.R_far (p := ⟨gb266, 0, none⟩) (Kd.R_types HO264.out BK266.out (by decide)) (fun _ hk => hk.2) (.slice Ao73 t256.length co73)) (fun _ hk => hk.2) (.slice Ao77 t259.length co77)) (fun _ hk => hk.2) (.slice Ao78 t262.length co78)) (fun _ h_ => h_.1)))); (case side6 => exact (Kd.R_reads' HO264.out).2.1); (case side7 => refine (Kd.R_reads' (e := 9) (base := w.heap.size) (ok := fun k_ => ((some k_ ≠ (.slice Ao21 t229.length co21 : Value).ownBlock ∧ some k_ ≠ (.slice Ao70 t253.length co70 : Value).ownBlock) ∧ some k_ ≠ (.slice Ao73 t256.length co73 : Value).ownBlock)) (n := t215.length) (c := co13) ?_).2.2; exact (by (with_reducible repeat (first | apply rA_ | apply rN_ | apply rD_)); exact (Kd.R_mono (Kd.R_far (p := ⟨gb266, 2, none⟩) (Kd.R_far (p := ⟨gb266, 1, none⟩) (Kd.R_far (p := ⟨gb266, 0, none⟩) (Kd.R_types HO_226000.out BK266.out (by decide)) (fun _ hk => hk.2) (.slice Ao73 t256.length co73)) (fun _ hk => hk.2) (.slice Ao77 t259.length co77)) (fun _ hk => hk.2) (.slice Ao78 t262.length co78)) (fun _ h_ => h_.1)))); (case side8 => exact (Kd.R_reads' HO_226000.out).2.1); (case side9 => refine (Kd.R_reads' (e := 25) (base := w.heap.size) (ok := fun k_ => (((some k_ ≠ (.slice Ao16 t221.length co16 : Value).ownBlock ∧ (some k_ ≠ (.slice Ao24 t232.length co24 : Value).ownBlock ∧ some k_ ≠ (.slice Ao25 t235.length co25 : Value).ownBlock)) ∧ some k_ ≠ (.slice Ao77 t259.length co77 : Value).ownBlock) ∧ some k_ ≠ (.slice Ao78 t262.length co78 : Value).ownBlock)) (n := t218.length) (c := co15) ?_).2.2; exact (by (with_reducible repeat (first | apply rA_ | apply rN_ | apply rD_)); exact (Kd.R_mono (Kd.R_far (p := ⟨gb266, 2, none⟩) (Kd.R_far (p := ⟨gb266, 1, none⟩) (Kd.R_far (p := ⟨gb266, 0, none⟩) (Kd.R_types HO_226001.out BK266.out (by decide)) (fun _ hk => hk.2) (.slice Ao73 t256.length co73)) (fun _ hk => hk.2) (.slice Ao77 t259.length co77)) (fun _ hk => hk.2) (.slice Ao78 t262.length co78)) (fun _ h_ => h_.1)))); (case side10 => exact (Kd.R_reads' HO_226001.out).2.1); (case side11 => refine (Kd.R_reads' (e := 25) (base := w.heap.size) (ok := fun k_ => (((some k_ ≠ (.slice Ao15 t218.length co15 : Value).ownBlock ∧ (some k_ ≠ (.slice Ao24 t232.length co24 : Value).ownBlock ∧ some k_ ≠ (.slice Ao25 t235.length co25 : Value).ownBlock)) ∧ some k_ ≠ (.slice Ao77 t259.length co77 : Value).ownBlock) ∧ some k_ ≠ (.slice Ao78 t262.length co78 : Value).ownBlock)) (n := t221.length) (c := co16) ?_).2.2; exact (by (with_reducible repeat (first | apply rA_ | apply rN_ | apply rD_)); exact (Kd.R_mono (Kd.R_far (p := ⟨gb266, 2, none⟩) (Kd.R_far (p := ⟨gb266, 1, none⟩) (Kd.R_far (p := ⟨gb266, 0, none⟩) (Kd.R_types HO_226002.out BK266.out (by decide)) (fun _ hk => hk.2) (.slice Ao73 t256.length co73)) (fun _ hk => hk.2) (.slice Ao77 t259.length co77)) (fun _ hk => hk.2) (.slice Ao78 t262.length co78)) (fun _ h_ => h_.1)))); (case side12 => exact (Kd.R_reads' HO_226002.out).2.1); rintro e w86 ⟨rfl, hb⟩; refine ⟨_, rfl, ?_⟩; have n0_ := Aside0.mk (Kd.R_below (by (with_reducible repeat (first | apply rA_ | apply rN_ | apply rD_)); exact (Kd.R_mono (Kd.R_far (p := ⟨gb266, 2, none⟩) (Kd.R_far (p := ⟨gb266, 1, none⟩) (Kd.R_far (p := ⟨gb266, 0, none⟩) (Kd.R_types HO_226000.out BK266.out (by decide)) (fun _ hk => hk.2) (.slice Ao73 t256.length co73)) (fun _ hk => hk.2) (.slice Ao77 t259.length co77)) (fun _ hk => hk.2) (.slice Ao78 t262.length co78)) (fun _ h_ => h_.1))) hb); have n1_ := Aside0.mk (Kd.R_below (by (with_reducible repeat (first | apply rA_ | apply rN_ | apply rD_)); exact (Kd.R_mono (Kd.R_far (p := ⟨gb266, 2, none⟩) (Kd.R_far (p := ⟨gb266, 1, none⟩) (Kd.R_far (p := ⟨gb266, 0, none⟩) (Kd.R_types HO_226001.out BK266.out (by decide)) (fun _ hk => hk.2) (.slice Ao73 t256.length co73)) (fun _ hk => hk.2) (.slice Ao77 t259.length co77)) (fun _ hk => hk.2) (.slice Ao78 t262.length co78)) (fun _ h_ => h_.1))) hb); have n2_ := Aside0.mk (Kd.R_below (by (with_reducible repeat (first | apply rA_ | apply rN_ | apply rD_)); exact (Kd.R_mono (Kd.R_far (p := ⟨gb266, 2, none⟩) (Kd.R_far (p := ⟨gb266, 1, none⟩) (Kd.R_far (p := ⟨gb266, 0, none⟩) (Kd.R_types HO_226002.out BK266.out (by decide)) (fun _ hk => hk.2) (.slice Ao73 t256.length co73)) (fun _ hk => hk.2) (.slice Ao77 t259.length co77)) (fun _ hk => hk.2) (.slice Ao78 t262.length co78)) (fun _ h_ => h_.1))) hb); have n3_ := Aside0.mk (Kd.R_below (by (with_reducible repeat (first | apply rA_ | apply rN_ | apply rD_)); exact (Kd.R_mono (Kd.R_far (p := ⟨gb266, 2, none⟩) (Kd.R_far (p := ⟨gb266, 1, none⟩) (Kd.R_far (p := ⟨gb266, 0, none⟩) (Kd.R_types HO_240000.out BK266.out (by decide)) (fun _ hk => hk.2) (.slice Ao73 t256.length co73)) (fun _ hk => hk.2) (.slice Ao77 t259.length co77)) (fun _ hk => hk.2) (.slice Ao78 t262.length co78)) (fun _ h_ => h_.1))) hb); have n4_ := Aside0.mk (Kd.R_below (by (with_reducible repeat (first | apply rA_ | apply rN_ | apply rD_)); exact (Kd.R_mono (Kd.R_far (p := ⟨gb266, 2, none⟩) (Kd.R_far (p := ⟨gb266, 1, none⟩) (Kd.R_far (p := ⟨gb266, 0, none⟩) (Kd.R_types HO_240001.out BK266.out (by decide)) (fun _ hk => hk.2) (.slice Ao73 t256.length co73)) (fun _ hk => hk.2) (.slice Ao77 t259.length co77)) (fun _ hk => hk.2) (.slice Ao78 t262.length co78)) (fun _ h_ => h_.1))) hb); have n5_ := Aside0.mk (Kd.R_below (by (with_reducible repeat (first | apply rA_ | apply rN_ | apply rD_)); exact (Kd.R_mono (Kd.R_far (p := ⟨gb266, 2, none⟩) (Kd.R_far (p := ⟨gb266, 1, none⟩) (Kd.R_far (p := ⟨gb266, 0, none⟩) (Kd.R_types HO_240002.out BK266.out (by decide)) (fun _ hk => hk.2) (.slice Ao73 t256.length co73)) (fun _ hk => hk.2) (.slice Ao77 t259.length co77)) (fun _ hk => hk.2) (.slice Ao78 t262.length co78)) (fun _ h_ => h_.1))) hb); have n6_ := Aside0.mk (Kd.R_below (by (with_reducible repeat (first | apply rA_ | apply rN_ | apply rD_)); exact (Kd.R_mono (Kd.R_far (p := ⟨gb266, 2, none⟩) (Kd.R_far (p := ⟨gb266, 1, none⟩) (Kd.R_far (p := ⟨gb266, 0, none⟩) (Kd.R_types HO255.out BK266.out (by decide)) (fun _ hk => hk.2) (.slice Ao73 t256.length co73)) (fun _ hk => hk.2) (.slice Ao77 t259.length co77)) (fun _ hk => hk.2) (.slice Ao78 t262.length co78)) (fun _ h_ => h_.1))) hb); have n7_ := Aside0.mk (Kd.R_below (by (with_reducible repeat (first | apply rA_ | apply rN_ | apply rD_)); exact (Kd.R_mono (Kd.R_far (p := ⟨gb266, 2, none⟩) (Kd.R_far (p := ⟨gb266, 1, none⟩) (Kd.R_far (p := ⟨gb266, 0, none⟩) (Kd.R_types HO258.out BK266.out (by decide)) (fun _ hk => hk.2) (.slice Ao73 t256.length co73)) (fun _ hk => hk.2) (.slice Ao77 t259.length co77)) (fun _ hk => hk.2) (.slice Ao78 t262.length co78)) (fun _ h_ => h_.1))) hb); have n8_ := Aside0.mk (Kd.R_below (by (with_reducible repeat (first | apply rA_ | apply rN_ | apply rD_)); exact (Kd.R_mono (Kd.R_far (p := ⟨gb266, 2, none⟩) (Kd.R_far (p := ⟨gb266, 1, none⟩) (Kd.R_far (p := ⟨gb266, 0, none⟩) (Kd.R_types HO261.out BK266.out (by decide)) (fun _ hk => hk.2) (.slice Ao73 t256.length co73)) (fun _ hk => hk.2) (.slice Ao77 t259.length co77)) (fun _ hk => hk.2) (.slice Ao78 t262.length co78)) (fun _ h_ => h_.1))) hb); have n9_ := Aside0.mk (Kd.R_below (by (with_reducible repeat (first | apply rA_ | apply rN_ | apply rD_)); exact (Kd.R_mono (Kd.R_far (p := ⟨gb266, 2, none⟩) (Kd.R_far (p := ⟨gb266, 1, none⟩) (Kd.R_far (p := ⟨gb266, 0, none⟩) (Kd.R_types HO264.out BK266.out (by decide)) (fun _ hk => hk.2) (.slice Ao73 t256.length co73)) (fun _ hk => hk.2) (.slice Ao77 t259.length co77)) (fun _ hk => hk.2) (.slice Ao78 t262.length co78)) (fun _ h_ => h_.1))) hb); have n10_ := Aside0.mk (blk_below (g := gb225) (o := .cells #[.slice Ao13 t215.length co13, .slice Ao15 t218.length co15, .slice Ao16 t221.length co16] 35 (0, 0)) (by (with_reducible repeat (first | apply lN_ | apply lD_ | apply lA_)); refine blk_far ?_ NB225_266.out _; (with_reducible repeat (first | apply lN_ | apply lD_ | apply lA_)); refine blk_far ?_ NB225_266.out _; (with_reducible repeat (first | apply lN_ | apply lD_ | apply lA_)); refine blk_far ?_ NB225_266.out _; (with_reducible repeat (first | apply lN_ | apply lD_ | apply lA_)); exact BK225.out) hb); have n11_ := Aside0.mk (blk_below (g := gb239) (o := .cells #[.slice Ao21 t229.length co21, .slice Ao24 t232.length co24, .slice Ao25 t235.length co25] 35 (0, 0)) (by (with_reducible repeat (first | apply lN_ | apply lD_ | apply lA_)); refine blk_far ?_ NB239_266.out _; (with_reducible repeat (first | apply lN_ | apply lD_ | apply lA_)); refine blk_far ?_ NB239_266.out _; (with_reducible repeat (first | apply lN_ | apply lD_ | apply lA_)); refine blk_far ?_ NB239_266.out _; (with_reducible repeat (first | apply lN_ | apply lD_ | apply lA_)); exact BK239.out) hb); have n12_ := Aside0.mk (blk_below (g := gb266) (o := .cells #[.slice Ao73 t256.length co73, .slice Ao77 t259.length co77, .slice Ao78 t262.length co78] 35 (0, 0)) (by (with_reducible repeat (first | apply lN_ | apply lD_ | apply lA_)); refine blk_put (cs := #[.slice Ao73 t256.length co73, .slice Ao77 t259.length co77, .slice none 0 0]) ?_ 2 _ rfl; (with_reducible repeat (first | apply lN_ | apply lD_ | apply lA_)); refine blk_put (cs := #[.slice Ao73 t256.length co73, .slice none 0 0, .slice none 0 0]) ?_ 1 _ rfl; (with_reducible repeat (first | apply lN_ | apply lD_ | apply lA_)); refine blk_put (cs := #[.slice none 0 0, .slice none 0 0, .slice none 0 0]) ?_ 0 _ rfl; (with_reducible repeat (first | apply lN_ | apply lD_ | apply lA_)); exact BK266.out) hb); have n13_ := Aside0.mk (below_step (by repeat (first | (with_reducible first | exact HB.out | apply bA_ | apply bN_ | apply bD_ | refine bS_ ?_ GE225.out | refine bS_ ?_ GE239.out | refine bS_ ?_ GE266.out) | exact HB.out)) hb); clear HO_226000; clear HO_226001; clear HO_226002; clear HO_240000; clear HO_240001; clear HO_240002; clear HO255; clear HO258; clear HO261; clear HO264; clear BK225; clear BK239; clear BK266; clear HB; have HO_226000 := n0_; have HO_226001 := n1_; have HO_226002 := n2_; have HO_240000 := n3_; have HO_240001 := n4_; have HO_240002 := n5_; have HO255 := n6_; have HO258 := n7_; have HO261 := n8_; have HO264 := n9_; have BK225 := n10_; have BK239 := n11_; have BK266 := n12_; have HB := n13_; clear n0_ n1_ n2_ n3_ n4_ n5_ n6_ n7_ n8_ n9_ n10_ n11_ n12_ n13_; (try clear hb); (try clear hb2); (try clear hk); (try clear hi)))
             go_meet
             case rel => exact ⟨_, ((t265 != t224)), (by first | rfl | (simp; done) | (simp [*]; done)), H', ⟨by have := HJ7.out; have := HJ40.out; first | omega | exact Nat.le_refl _⟩, ⟨by (with_reducible repeat (first | apply rA_ | apply rN_ | apply rD_)); exact Kd.R_mono HO_226000.out (fun _ hk => ⟨hk.1.1, hk.2⟩)⟩, ⟨by (with_reducible repeat (first | apply rA_ | apply rN_ | apply rD_)); exact Kd.R_mono HO_226001.out (fun _ hk => ⟨hk.1.1.1, ⟨hk.1.1.2.1, ⟨hk.1.1.2.2, ⟨hk.1.2, hk.2⟩⟩⟩⟩)⟩, ⟨by (with_reducible repeat (first | apply rA_ | apply rN_ | apply rD_)); exact Kd.R_mono HO_226002.out (fun _ hk => ⟨hk.1.1.1, ⟨hk.1.1.2.1, ⟨hk.1.1.2.2, ⟨hk.1.2, hk.2⟩⟩⟩⟩)⟩, ⟨by (with_reducible repeat (first | apply rA_ | apply rN_ | apply rD_)); exact Kd.R_mono HO_240000.out (fun _ hk => ⟨hk.1.1, hk.2⟩)⟩, ⟨by (with_reducible repeat (first | apply rA_ | apply rN_ | apply rD_)); exact Kd.R_mono HO_240001.out (fun _ hk => ⟨hk.1.1.1, ⟨hk.1.1.2.1, ⟨hk.1.1.2.2, ⟨hk.1.2, hk.2⟩⟩⟩⟩)⟩, ⟨by (with_reducible repeat (first | apply rA_ | apply rN_ | apply rD_)); exact Kd.R_mono HO_240002.out (fun _ hk => ⟨hk.1.1.1, ⟨hk.1.1.2.1, ⟨hk.1.1.2.2, ⟨hk.1.2, hk.2⟩⟩⟩⟩)⟩, ⟨by (with_reducible repeat (first | apply rA_ | apply rN_ | apply rD_)); exact Kd.R_mono HO258.out (fun _ hk => ⟨hk.1.1.2, hk.1.2⟩)⟩, ⟨by (with_reducible repeat (first | apply rA_ | apply rN_ | apply rD_)); exact Kd.R_mono HO261.out (fun _ hk => ⟨hk.1.1.1.2, ⟨hk.1.1.2, ⟨hk.1.2, ⟨hk.2, hk.1.1.1.1⟩⟩⟩⟩)⟩, ⟨by (with_reducible repeat (first | apply rA_ | apply rN_ | apply rD_)); exact Kd.R_mono HO264.out (fun _ hk => ⟨hk.1.1.1.2, ⟨hk.1.1.2, ⟨hk.1.2, ⟨hk.2, hk.1.1.1.1⟩⟩⟩⟩)⟩, ⟨by (with_reducible repeat (first | apply lN_ | apply lD_ | apply lA_)); exact BK225.out⟩, ⟨by (with_reducible repeat (first | apply lN_ | apply lD_ | apply lA_)); exact BK239.out⟩, ⟨by (with_reducible repeat (first | apply lN_ | apply lD_ | apply lA_)); exact BK266.out⟩, ⟨by repeat (first | (with_reducible first | exact HB.out | apply bA_ | apply bN_ | apply bD_ | refine bS_ ?_ GE225.out | refine bS_ ?_ GE239.out | refine bS_ ?_ GE266.out) | exact HB.out)⟩⟩
            ·replace c80 := Bool.eq_false_iff.mpr c80
             subst c80
             have H1 : (laws_FnExactStartDesk.j2 kj40 t248 true t249 t250 t251) = some r := by rw [if_neg (show ¬ (false = true) by decide)] at H; exact H
             clear H
             have H := H1
             clear H1
             have H' := Aside0.mk H
             clear H
             have hnb87 := NB266_225.out
             have hnc87 := NB225_266.out
             have hnb88 := NB266_239.out
             have hnc88 := NB239_266.out
             have hcz89_0 : w72.cell? ⟨gb266, 0, none⟩ = some (.slice none 0 0) := (blk_cell BK266.out 0).trans rfl
             have hcz89_1 : w72.cell? ⟨gb266, 1, none⟩ = some (.slice none 0 0) := (blk_cell BK266.out 1).trans rfl
             have hcz89_2 : w72.cell? ⟨gb266, 2, none⟩ = some (.slice none 0 0) := (blk_cell BK266.out 2).trans rfl
             have hfz89_0 := blk_frozen BK266.out 0
             have hfz89_1 := blk_frozen BK266.out 1
             have hfz89_2 := blk_frozen BK266.out 2
             have hnb90 := NB225_239.out
             have hnc90 := NB239_225.out
             have hcz91_0 : w72.cell? ⟨gb225, 0, none⟩ = some (.slice Ao13 t215.length co13) := (blk_cell BK225.out 0).trans rfl
             have hcz91_1 : w72.cell? ⟨gb225, 1, none⟩ = some (.slice Ao15 t218.length co15) := (blk_cell BK225.out 1).trans rfl
             have hcz91_2 : w72.cell? ⟨gb225, 2, none⟩ = some (.slice Ao16 t221.length co16) := (blk_cell BK225.out 2).trans rfl
             have hfz91_0 := blk_frozen BK225.out 0
             have hfz91_1 := blk_frozen BK225.out 1
             have hfz91_2 := blk_frozen BK225.out 2
             go_wp2_with (first | ((with_reducible refine gate_callee (f := 23) rfl ?_); refine goesL_ (some 81) rfl rfl Try.func23 (by kernel_rfl) rfl #[.agg #[.slice Ao73 t256.length co73, .slice Ao77 t259.length co77, .slice Ao78 t262.length co78], .agg #[.slice Ao13 t215.length co13, .slice Ao15 t218.length co15, .slice Ao16 t221.length co16]] rfl (by (try simp only [List.map_toArray, List.map_cons, List.map_nil]); first | done | rfl | (simp only [List.length_drop, List.length_take]; rfl)) ?_; (with_reducible refine (laws_eqDesk.calls kj40 _ _ t256 _ _ t259 _ _ t262 _ _ t215 _ _ t218 _ _ t221 false _ ?side1 ?side2 ?side3 ?side4 ?side5 ?side6 ?side7 ?side8 ?side9 ?side10 ?side11 ?side12 A79.out).mono ?_); (case side1 => refine (Kd.R_reads' (e := 9) (base := w.heap.size) (ok := fun k_ => (((True ∧ some k_ ≠ (.slice Ao13 t215.length co13 : Value).ownBlock) ∧ some k_ ≠ (.slice Ao21 t229.length co21 : Value).ownBlock) ∧ some k_ ≠ (.slice Ao70 t253.length co70 : Value).ownBlock)) (n := t256.length) (c := co73) ?_).2.2; exact (by (with_reducible repeat (first | apply rA_ | apply rN_ | apply rD_)); exact (Kd.R_mono (Kd.R_far (p := ⟨gb266, 2, none⟩) (Kd.R_far (p := ⟨gb266, 1, none⟩) (Kd.R_far (p := ⟨gb266, 0, none⟩) (Kd.R_types HO258.out BK266.out (by decide)) (fun _ hk => hk.2) (.slice Ao73 t256.length co73)) (fun _ hk => hk.2) (.slice Ao77 t259.length co77)) (fun _ hk => hk.2) (.slice Ao78 t262.length co78)) (fun _ h_ => h_.1)))); (case side2 => exact (Kd.R_reads' HO258.out).2.1); (case side3 => refine (Kd.R_reads' (e := 25) (base := w.heap.size) (ok := fun k_ => ((((some k_ ≠ (.slice Ao78 t262.length co78 : Value).ownBlock ∧ some k_ ≠ (.slice Ao15 t218.length co15 : Value).ownBlock) ∧ some k_ ≠ (.slice Ao16 t221.length co16 : Value).ownBlock) ∧ some k_ ≠ (.slice Ao24 t232.length co24 : Value).ownBlock) ∧ some k_ ≠ (.slice Ao25 t235.length co25 : Value).ownBlock)) (n := t259.length) (c := co77) ?_).2.2; exact (by (with_reducible repeat (first | apply rA_ | apply rN_ | apply rD_)); exact (Kd.R_mono (Kd.R_far (p := ⟨gb266, 2, none⟩) (Kd.R_far (p := ⟨gb266, 1, none⟩) (Kd.R_far (p := ⟨gb266, 0, none⟩) (Kd.R_types HO261.out BK266.out (by decide)) (fun _ hk => hk.2) (.slice Ao73 t256.length co73)) (fun _ hk => hk.2) (.slice Ao77 t259.length co77)) (fun _ hk => hk.2) (.slice Ao78 t262.length co78)) (fun _ h_ => h_.1)))); (case side4 => exact (Kd.R_reads' HO261.out).2.1); (case side5 => refine (Kd.R_reads' (e := 25) (base := w.heap.size) (ok := fun k_ => ((((some k_ ≠ (.slice Ao77 t259.length co77 : Value).ownBlock ∧ some k_ ≠ (.slice Ao15 t218.length co15 : Value).ownBlock) ∧ some k_ ≠ (.slice Ao16 t221.length co16 : Value).ownBlock) ∧ some k_ ≠ (.slice Ao24 t232.length co24 : Value).ownBlock) ∧ some k_ ≠ (.slice Ao25 t235.length co25 : Value).ownBlock)) (n := t262.length) (c := co78) ?_).2.2; exact (by (with_reducible repeat (first | apply rA_ | apply rN_ | apply rD_)); exact (Kd.R_mono (Kd.R_far (p := ⟨gb266, 2, none⟩) (Kd.R_far (p := ⟨gb266, 1, none⟩) (Kd.R_far (p := ⟨gb266, 0, none⟩) (Kd.R_types HO264.out BK266.out (by decide)) (fun _ hk => hk.2) (.slice Ao73 t256.length co73)) (fun _ hk => hk.2) (.slice Ao77 t259.length co77)) (fun _ hk => hk.2) (.slice Ao78 t262.length co78)) (fun _ h_ => h_.1)))); (case side6 => exact (Kd.R_reads' HO264.out).2.1); (case side7 => refine (Kd.R_reads' (e := 9) (base := w.heap.size) (ok := fun k_ => ((some k_ ≠ (.slice Ao21 t229.length co21 : Value).ownBlock ∧ some k_ ≠ (.slice Ao70 t253.length co70 : Value).ownBlock) ∧ some k_ ≠ (.slice Ao73 t256.length co73 : Value).ownBlock)) (n := t215.length) (c := co13) ?_).2.2; exact (by (with_reducible repeat (first | apply rA_ | apply rN_ | apply rD_)); exact (Kd.R_mono (Kd.R_far (p := ⟨gb266, 2, none⟩) (Kd.R_far (p := ⟨gb266, 1, none⟩) (Kd.R_far (p := ⟨gb266, 0, none⟩) (Kd.R_types HO_226000.out BK266.out (by decide)) (fun _ hk => hk.2) (.slice Ao73 t256.length co73)) (fun _ hk => hk.2) (.slice Ao77 t259.length co77)) (fun _ hk => hk.2) (.slice Ao78 t262.length co78)) (fun _ h_ => h_.1)))); (case side8 => exact (Kd.R_reads' HO_226000.out).2.1); (case side9 => refine (Kd.R_reads' (e := 25) (base := w.heap.size) (ok := fun k_ => (((some k_ ≠ (.slice Ao16 t221.length co16 : Value).ownBlock ∧ (some k_ ≠ (.slice Ao24 t232.length co24 : Value).ownBlock ∧ some k_ ≠ (.slice Ao25 t235.length co25 : Value).ownBlock)) ∧ some k_ ≠ (.slice Ao77 t259.length co77 : Value).ownBlock) ∧ some k_ ≠ (.slice Ao78 t262.length co78 : Value).ownBlock)) (n := t218.length) (c := co15) ?_).2.2; exact (by (with_reducible repeat (first | apply rA_ | apply rN_ | apply rD_)); exact (Kd.R_mono (Kd.R_far (p := ⟨gb266, 2, none⟩) (Kd.R_far (p := ⟨gb266, 1, none⟩) (Kd.R_far (p := ⟨gb266, 0, none⟩) (Kd.R_types HO_226001.out BK266.out (by decide)) (fun _ hk => hk.2) (.slice Ao73 t256.length co73)) (fun _ hk => hk.2) (.slice Ao77 t259.length co77)) (fun _ hk => hk.2) (.slice Ao78 t262.length co78)) (fun _ h_ => h_.1)))); (case side10 => exact (Kd.R_reads' HO_226001.out).2.1); (case side11 => refine (Kd.R_reads' (e := 25) (base := w.heap.size) (ok := fun k_ => (((some k_ ≠ (.slice Ao15 t218.length co15 : Value).ownBlock ∧ (some k_ ≠ (.slice Ao24 t232.length co24 : Value).ownBlock ∧ some k_ ≠ (.slice Ao25 t235.length co25 : Value).ownBlock)) ∧ some k_ ≠ (.slice Ao77 t259.length co77 : Value).ownBlock) ∧ some k_ ≠ (.slice Ao78 t262.length co78 : Value).ownBlock)) (n := t221.length) (c := co16) ?_).2.2; exact (by (with_reducible repeat (first | apply rA_ | apply rN_ | apply rD_)); exact (Kd.R_mono (Kd.R_far (p := ⟨gb266, 2, none⟩) (Kd.R_far (p := ⟨gb266, 1, none⟩) (Kd.R_far (p := ⟨gb266, 0, none⟩) (Kd.R_types HO_226002.out BK266.out (by decide)) (fun _ hk => hk.2) (.slice Ao73 t256.length co73)) (fun _ hk => hk.2) (.slice Ao77 t259.length co77)) (fun _ hk => hk.2) (.slice Ao78 t262.length co78)) (fun _ h_ => h_.1)))); (case side12 => exact (Kd.R_reads' HO_226002.out).2.1); rintro e w92 ⟨rfl, hb⟩; refine ⟨_, rfl, ?_⟩; have n0_ := Aside0.mk (Kd.R_below (by (with_reducible repeat (first | apply rA_ | apply rN_ | apply rD_)); exact (Kd.R_mono (Kd.R_far (p := ⟨gb266, 2, none⟩) (Kd.R_far (p := ⟨gb266, 1, none⟩) (Kd.R_far (p := ⟨gb266, 0, none⟩) (Kd.R_types HO_226000.out BK266.out (by decide)) (fun _ hk => hk.2) (.slice Ao73 t256.length co73)) (fun _ hk => hk.2) (.slice Ao77 t259.length co77)) (fun _ hk => hk.2) (.slice Ao78 t262.length co78)) (fun _ h_ => h_.1))) hb); have n1_ := Aside0.mk (Kd.R_below (by (with_reducible repeat (first | apply rA_ | apply rN_ | apply rD_)); exact (Kd.R_mono (Kd.R_far (p := ⟨gb266, 2, none⟩) (Kd.R_far (p := ⟨gb266, 1, none⟩) (Kd.R_far (p := ⟨gb266, 0, none⟩) (Kd.R_types HO_226001.out BK266.out (by decide)) (fun _ hk => hk.2) (.slice Ao73 t256.length co73)) (fun _ hk => hk.2) (.slice Ao77 t259.length co77)) (fun _ hk => hk.2) (.slice Ao78 t262.length co78)) (fun _ h_ => h_.1))) hb); have n2_ := Aside0.mk (Kd.R_below (by (with_reducible repeat (first | apply rA_ | apply rN_ | apply rD_)); exact (Kd.R_mono (Kd.R_far (p := ⟨gb266, 2, none⟩) (Kd.R_far (p := ⟨gb266, 1, none⟩) (Kd.R_far (p := ⟨gb266, 0, none⟩) (Kd.R_types HO_226002.out BK266.out (by decide)) (fun _ hk => hk.2) (.slice Ao73 t256.length co73)) (fun _ hk => hk.2) (.slice Ao77 t259.length co77)) (fun _ hk => hk.2) (.slice Ao78 t262.length co78)) (fun _ h_ => h_.1))) hb); have n3_ := Aside0.mk (Kd.R_below (by (with_reducible repeat (first | apply rA_ | apply rN_ | apply rD_)); exact (Kd.R_mono (Kd.R_far (p := ⟨gb266, 2, none⟩) (Kd.R_far (p := ⟨gb266, 1, none⟩) (Kd.R_far (p := ⟨gb266, 0, none⟩) (Kd.R_types HO_240000.out BK266.out (by decide)) (fun _ hk => hk.2) (.slice Ao73 t256.length co73)) (fun _ hk => hk.2) (.slice Ao77 t259.length co77)) (fun _ hk => hk.2) (.slice Ao78 t262.length co78)) (fun _ h_ => h_.1))) hb); have n4_ := Aside0.mk (Kd.R_below (by (with_reducible repeat (first | apply rA_ | apply rN_ | apply rD_)); exact (Kd.R_mono (Kd.R_far (p := ⟨gb266, 2, none⟩) (Kd.R_far (p := ⟨gb266, 1, none⟩) (Kd.R_far (p := ⟨gb266, 0, none⟩) (Kd.R_types HO_240001.out BK266.out (by decide)) (fun _ hk => hk.2) (.slice Ao73 t256.length co73)) (fun _ hk => hk.2) (.slice Ao77 t259.length co77)) (fun _ hk => hk.2) (.slice Ao78 t262.length co78)) (fun _ h_ => h_.1))) hb); have n5_ := Aside0.mk (Kd.R_below (by (with_reducible repeat (first | apply rA_ | apply rN_ | apply rD_)); exact (Kd.R_mono (Kd.R_far (p := ⟨gb266, 2, none⟩) (Kd.R_far (p := ⟨gb266, 1, none⟩) (Kd.R_far (p := ⟨gb266, 0, none⟩) (Kd.R_types HO_240002.out BK266.out (by decide)) (fun _ hk => hk.2) (.slice Ao73 t256.length co73)) (fun _ hk => hk.2) (.slice Ao77 t259.length co77)) (fun _ hk => hk.2) (.slice Ao78 t262.length co78)) (fun _ h_ => h_.1))) hb); have n6_ := Aside0.mk (Kd.R_below (by (with_reducible repeat (first | apply rA_ | apply rN_ | apply rD_)); exact (Kd.R_mono (Kd.R_far (p := ⟨gb266, 2, none⟩) (Kd.R_far (p := ⟨gb266, 1, none⟩) (Kd.R_far (p := ⟨gb266, 0, none⟩) (Kd.R_types HO255.out BK266.out (by decide)) (fun _ hk => hk.2) (.slice Ao73 t256.length co73)) (fun _ hk => hk.2) (.slice Ao77 t259.length co77)) (fun _ hk => hk.2) (.slice Ao78 t262.length co78)) (fun _ h_ => h_.1))) hb); have n7_ := Aside0.mk (Kd.R_below (by (with_reducible repeat (first | apply rA_ | apply rN_ | apply rD_)); exact (Kd.R_mono (Kd.R_far (p := ⟨gb266, 2, none⟩) (Kd.R_far (p := ⟨gb266, 1, none⟩) (Kd.R_far (p := ⟨gb266, 0, none⟩) (Kd.R_types HO258.out BK266.out (by decide)) (fun _ hk => hk.2) (.slice Ao73 t256.length co73)) (fun _ hk => hk.2) (.slice Ao77 t259.length co77)) (fun _ hk => hk.2) (.slice Ao78 t262.length co78)) (fun _ h_ => h_.1))) hb); have n8_ := Aside0.mk (Kd.R_below (by (with_reducible repeat (first | apply rA_ | apply rN_ | apply rD_)); exact (Kd.R_mono (Kd.R_far (p := ⟨gb266, 2, none⟩) (Kd.R_far (p := ⟨gb266, 1, none⟩) (Kd.R_far (p := ⟨gb266, 0, none⟩) (Kd.R_types HO261.out BK266.out (by decide)) (fun _ hk => hk.2) (.slice Ao73 t256.length co73)) (fun _ hk => hk.2) (.slice Ao77 t259.length co77)) (fun _ hk => hk.2) (.slice Ao78 t262.length co78)) (fun _ h_ => h_.1))) hb); have n9_ := Aside0.mk (Kd.R_below (by (with_reducible repeat (first | apply rA_ | apply rN_ | apply rD_)); exact (Kd.R_mono (Kd.R_far (p := ⟨gb266, 2, none⟩) (Kd.R_far (p := ⟨gb266, 1, none⟩) (Kd.R_far (p := ⟨gb266, 0, none⟩) (Kd.R_types HO264.out BK266.out (by decide)) (fun _ hk => hk.2) (.slice Ao73 t256.length co73)) (fun _ hk => hk.2) (.slice Ao77 t259.length co77)) (fun _ hk => hk.2) (.slice Ao78 t262.length co78)) (fun _ h_ => h_.1))) hb); have n10_ := Aside0.mk (blk_below (g := gb225) (o := .cells #[.slice Ao13 t215.length co13, .slice Ao15 t218.length co15, .slice Ao16 t221.length co16] 35 (0, 0)) (by (with_reducible repeat (first | apply lN_ | apply lD_ | apply lA_)); refine blk_far ?_ NB225_266.out _; (with_reducible repeat (first | apply lN_ | apply lD_ | apply lA_)); refine blk_far ?_ NB225_266.out _; (with_reducible repeat (first | apply lN_ | apply lD_ | apply lA_)); refine blk_far ?_ NB225_266.out _; (with_reducible repeat (first | apply lN_ | apply lD_ | apply lA_)); exact BK225.out) hb); have n11_ := Aside0.mk (blk_below (g := gb239) (o := .cells #[.slice Ao21 t229.length co21, .slice Ao24 t232.length co24, .slice Ao25 t235.length co25] 35 (0, 0)) (by (with_reducible repeat (first | apply lN_ | apply lD_ | apply lA_)); refine blk_far ?_ NB239_266.out _; (with_reducible repeat (first | apply lN_ | apply lD_ | apply lA_)); refine blk_far ?_ NB239_266.out _; (with_reducible repeat (first | apply lN_ | apply lD_ | apply lA_)); refine blk_far ?_ NB239_266.out _; (with_reducible repeat (first | apply lN_ | apply lD_ | apply lA_)); exact BK239.out) hb); have n12_ := Aside0.mk (blk_below (g := gb266) (o := .cells #[.slice Ao73 t256.length co73, .slice Ao77 t259.length co77, .slice Ao78 t262.length co78] 35 (0, 0)) (by (with_reducible repeat (first | apply lN_ | apply lD_ | apply lA_)); refine blk_put (cs := #[.slice Ao73 t256.length co73, .slice Ao77 t259.length co77, .slice none 0 0]) ?_ 2 _ rfl; (with_reducible repeat (first | apply lN_ | apply lD_ | apply lA_)); refine blk_put (cs := #[.slice Ao73 t256.length co73, .slice none 0 0, .slice none 0 0]) ?_ 1 _ rfl; (with_reducible repeat (first | apply lN_ | apply lD_ | apply lA_)); refine blk_put (cs := #[.slice none 0 0, .slice none 0 0, .slice none 0 0]) ?_ 0 _ rfl; (with_reducible repeat (first | apply lN_ | apply lD_ | apply lA_)); exact BK266.out) hb); have n13_ := Aside0.mk (below_step (by repeat (first | (with_reducible first | exact HB.out | apply bA_ | apply bN_ | apply bD_ | refine bS_ ?_ GE225.out | refine bS_ ?_ GE239.out | refine bS_ ?_ GE266.out) | exact HB.out)) hb); clear HO_226000; clear HO_226001; clear HO_226002; clear HO_240000; clear HO_240001; clear HO_240002; clear HO255; clear HO258; clear HO261; clear HO264; clear BK225; clear BK239; clear BK266; clear HB; have HO_226000 := n0_; have HO_226001 := n1_; have HO_226002 := n2_; have HO_240000 := n3_; have HO_240001 := n4_; have HO_240002 := n5_; have HO255 := n6_; have HO258 := n7_; have HO261 := n8_; have HO264 := n9_; have BK225 := n10_; have BK239 := n11_; have BK266 := n12_; have HB := n13_; clear n0_ n1_ n2_ n3_ n4_ n5_ n6_ n7_ n8_ n9_ n10_ n11_ n12_ n13_; (try clear hb); (try clear hb2); (try clear hk); (try clear hi)))
             go_meet
             case rel => exact ⟨_, (true), (by first | rfl | (simp; done) | (simp [*]; done)), H', ⟨by have := HJ7.out; have := HJ40.out; first | omega | exact Nat.le_refl _⟩, ⟨by (with_reducible repeat (first | apply rA_ | apply rN_ | apply rD_)); exact Kd.R_mono HO_226000.out (fun _ hk => ⟨hk.1.1, hk.2⟩)⟩, ⟨by (with_reducible repeat (first | apply rA_ | apply rN_ | apply rD_)); exact Kd.R_mono HO_226001.out (fun _ hk => ⟨hk.1.1.1, ⟨hk.1.1.2.1, ⟨hk.1.1.2.2, ⟨hk.1.2, hk.2⟩⟩⟩⟩)⟩, ⟨by (with_reducible repeat (first | apply rA_ | apply rN_ | apply rD_)); exact Kd.R_mono HO_226002.out (fun _ hk => ⟨hk.1.1.1, ⟨hk.1.1.2.1, ⟨hk.1.1.2.2, ⟨hk.1.2, hk.2⟩⟩⟩⟩)⟩, ⟨by (with_reducible repeat (first | apply rA_ | apply rN_ | apply rD_)); exact Kd.R_mono HO_240000.out (fun _ hk => ⟨hk.1.1, hk.2⟩)⟩, ⟨by (with_reducible repeat (first | apply rA_ | apply rN_ | apply rD_)); exact Kd.R_mono HO_240001.out (fun _ hk => ⟨hk.1.1.1, ⟨hk.1.1.2.1, ⟨hk.1.1.2.2, ⟨hk.1.2, hk.2⟩⟩⟩⟩)⟩, ⟨by (with_reducible repeat (first | apply rA_ | apply rN_ | apply rD_)); exact Kd.R_mono HO_240002.out (fun _ hk => ⟨hk.1.1.1, ⟨hk.1.1.2.1, ⟨hk.1.1.2.2, ⟨hk.1.2, hk.2⟩⟩⟩⟩)⟩, ⟨by (with_reducible repeat (first | apply rA_ | apply rN_ | apply rD_)); exact Kd.R_mono HO258.out (fun _ hk => ⟨hk.1.1.2, hk.1.2⟩)⟩, ⟨by (with_reducible repeat (first | apply rA_ | apply rN_ | apply rD_)); exact Kd.R_mono HO261.out (fun _ hk => ⟨hk.1.1.1.2, ⟨hk.1.1.2, ⟨hk.1.2, ⟨hk.2, hk.1.1.1.1⟩⟩⟩⟩)⟩, ⟨by (with_reducible repeat (first | apply rA_ | apply rN_ | apply rD_)); exact Kd.R_mono HO264.out (fun _ hk => ⟨hk.1.1.1.2, ⟨hk.1.1.2, ⟨hk.1.2, ⟨hk.2, hk.1.1.1.1⟩⟩⟩⟩)⟩, ⟨by (with_reducible repeat (first | apply lN_ | apply lD_ | apply lA_)); exact BK225.out⟩, ⟨by (with_reducible repeat (first | apply lN_ | apply lD_ | apply lA_)); exact BK239.out⟩, ⟨by (with_reducible repeat (first | apply lN_ | apply lD_ | apply lA_)); exact BK266.out⟩, ⟨by repeat (first | (with_reducible first | exact HB.out | apply bA_ | apply bN_ | apply bD_ | refine bS_ ?_ GE225.out | refine bS_ ?_ GE239.out | refine bS_ ?_ GE266.out) | exact HB.out)⟩⟩
           case rest =>
            clear HC63
            try clear c1
            try clear c2
            try clear p2
            try clear c3
            try clear c3b0
            try clear c4
            try clear c5
            try clear c6
            try clear c7
            try clear c8
            try clear c9
            try clear c19
            try clear c20
            try clear c21
            try clear c22
            try clear c23
            try clear c24
            try clear c25
            try clear c26
            try clear c27
            try clear c28
            try clear c32
            try clear c36
            try clear c39
            try clear c45
            try clear c45b0
            try clear c47
            try clear c48
            try clear c52
            try clear c56
            try clear c59
            try clear c59b0
            try clear c60
            try clear c60b0
            try clear c60b1
            try clear c64
            try clear c74
            try clear c75
            try clear c80
            try clear c81
            try clear c82
            try clear c84
            try clear c87
            try clear c88
            try clear c90
            try clear hcz14_0
            try clear hcz14_1
            try clear hcz14_2
            try clear hcz23_0
            try clear hcz23_1
            try clear hcz23_2
            try clear hcz29_0
            try clear hcz29_1
            try clear hcz29_2
            try clear hcz30_0
            try clear hcz30_1
            try clear hcz30_2
            try clear hcz33_0
            try clear hcz33_1
            try clear hcz33_2
            try clear hcz34_0
            try clear hcz34_1
            try clear hcz34_2
            try clear hcz49_0
            try clear hcz49_1
            try clear hcz49_2
            try clear hcz50_0
            try clear hcz50_1
            try clear hcz50_2
            try clear hcz53_0
            try clear hcz53_1
            try clear hcz53_2
            try clear hcz54_0
            try clear hcz54_1
            try clear hcz54_2
            try clear hcz65_0
            try clear hcz65_1
            try clear hcz65_2
            try clear hcz67_0
            try clear hcz67_1
            try clear hcz67_2
            try clear hcz76_0
            try clear hcz76_1
            try clear hcz76_2
            try clear hcz83_0
            try clear hcz83_1
            try clear hcz83_2
            try clear hcz85_0
            try clear hcz85_1
            try clear hcz85_2
            try clear hcz89_0
            try clear hcz89_1
            try clear hcz89_2
            try clear hcz91_0
            try clear hcz91_1
            try clear hcz91_2
            try clear hfz14_0
            try clear hfz14_1
            try clear hfz14_2
            try clear hfz23_0
            try clear hfz23_1
            try clear hfz23_2
            try clear hfz29_0
            try clear hfz29_1
            try clear hfz29_2
            try clear hfz30_0
            try clear hfz30_1
            try clear hfz30_2
            try clear hfz33_0
            try clear hfz33_1
            try clear hfz33_2
            try clear hfz34_0
            try clear hfz34_1
            try clear hfz34_2
            try clear hfz49_0
            try clear hfz49_1
            try clear hfz49_2
            try clear hfz50_0
            try clear hfz50_1
            try clear hfz50_2
            try clear hfz53_0
            try clear hfz53_1
            try clear hfz53_2
            try clear hfz54_0
            try clear hfz54_1
            try clear hfz54_2
            try clear hfz65_0
            try clear hfz65_1
            try clear hfz65_2
            try clear hfz67_0
            try clear hfz67_1
            try clear hfz67_2
            try clear hfz76_0
            try clear hfz76_1
            try clear hfz76_2
            try clear hfz83_0
            try clear hfz83_1
            try clear hfz83_2
            try clear hfz85_0
            try clear hfz85_1
            try clear hfz85_2
            try clear hfz89_0
            try clear hfz89_1
            try clear hfz89_2
            try clear hfz91_0
            try clear hfz91_1
            try clear hfz91_2
            try clear p2
            obtain ⟨kq, x87_62, rfl, HA, HJ62, HO_226000, HO_226001, HO_226002, HO_240000, HO_240001, HO_240002, HO_267000, HO_267001, HO_267002, BK225, BK239, BK266, HB⟩ := hcut
            have hl240000_62 := (Kd.R_reads' HO_240000.out).1
            rw [hl240000_62] at HO_240000
            (try simp only [hl240000_62])
            (try simp only [hl240000_62] at BK225)
            (try simp only [hl240000_62] at BK239)
            (try simp only [hl240000_62] at BK266)
            (try simp only [hl240000_62] at HO_226000)
            (try simp only [hl240000_62] at HO_226001)
            (try simp only [hl240000_62] at HO_226002)
            (try simp only [hl240000_62] at HO_240001)
            (try simp only [hl240000_62] at HO_240002)
            (try simp only [hl240000_62] at HO_267000)
            (try simp only [hl240000_62] at HO_267001)
            (try simp only [hl240000_62] at HO_267002)
            have hl240001_62 := (Kd.R_reads' HO_240001.out).1
            rw [hl240001_62] at HO_240001
            (try simp only [hl240001_62])
            (try simp only [hl240001_62] at BK225)
            (try simp only [hl240001_62] at BK239)
            (try simp only [hl240001_62] at BK266)
            (try simp only [hl240001_62] at HO_226000)
            (try simp only [hl240001_62] at HO_226001)
            (try simp only [hl240001_62] at HO_226002)
            (try simp only [hl240001_62] at HO_240000)
            (try simp only [hl240001_62] at HO_240002)
            (try simp only [hl240001_62] at HO_267000)
            (try simp only [hl240001_62] at HO_267001)
            (try simp only [hl240001_62] at HO_267002)
            have hl240002_62 := (Kd.R_reads' HO_240002.out).1
            rw [hl240002_62] at HO_240002
            (try simp only [hl240002_62])
            (try simp only [hl240002_62] at BK225)
            (try simp only [hl240002_62] at BK239)
            (try simp only [hl240002_62] at BK266)
            (try simp only [hl240002_62] at HO_226000)
            (try simp only [hl240002_62] at HO_226001)
            (try simp only [hl240002_62] at HO_226002)
            (try simp only [hl240002_62] at HO_240000)
            (try simp only [hl240002_62] at HO_240001)
            (try simp only [hl240002_62] at HO_267000)
            (try simp only [hl240002_62] at HO_267001)
            (try simp only [hl240002_62] at HO_267002)
            cases kq with
            | zero => exact absurd HA.out (by simp [laws_FnExactStartDesk.j2])
            | succ kj62 =>
             have H := HA.out
             clear HA
             simp only [laws_FnExactStartDesk.j2] at H
             by_cases c93 : x87_62 = true
             ·subst c93
              have H1 : (none) = some r := by rw [if_pos rfl] at H; exact H
              clear H
              have H := H1
              clear H1
              exact absurd H (by simp)
             ·replace c93 := Bool.eq_false_iff.mpr c93
              subst c93
              have H1 : ((laws_heldDesk.f kj62 t249 t250 t251 1).bind fun t268 => (if t268 < 0 then (none) else (if t268 = t248 then (some true) else (none)))) = some r := by rw [if_neg (show ¬ (false = true) by decide)] at H; exact H
              clear H
              have H := H1
              clear H1
              replace H := Option.bind_eq_some_iff.mp H
              obtain ⟨t268, A940, H⟩ := H
              replace H : (if t268 < 0 then (none) else (if t268 = t248 then (some true) else (none))) = some r := H
              have A94 := Aside0.mk A940
              clear A940
              by_cases c95 : t268 < 0
              ·rw [if_pos c95] at H
               exact absurd H (by simp)
              ·rw [if_neg c95] at H
               have c95b0 : decide (t268 < 0) = false := decide_eq_false c95
               clear c95
               by_cases c96 : t268 = t248
               ·rw [if_pos c96] at H
                have c96b0 : (t268 == t248) = true := beq_iff_eq.mpr c96
                have c96b1 : (t268 != t248) = false := bne_eq_false_iff_eq.mpr c96
                clear c96
                obtain rfl := Option.some.inj H
                have hnb97 := NB239_225.out
                have hnc97 := NB225_239.out
                have hnb98 := NB239_266.out
                have hnc98 := NB266_239.out
                have hcz99_0 : wc.cell? ⟨gb239, 0, none⟩ = some (.slice Ao21 t249.length co21) := (blk_cell BK239.out 0).trans rfl
                have hcz99_1 : wc.cell? ⟨gb239, 1, none⟩ = some (.slice Ao24 t250.length co24) := (blk_cell BK239.out 1).trans rfl
                have hcz99_2 : wc.cell? ⟨gb239, 2, none⟩ = some (.slice Ao25 t251.length co25) := (blk_cell BK239.out 2).trans rfl
                have hfz99_0 := blk_frozen BK239.out 0
                have hfz99_1 := blk_frozen BK239.out 1
                have hfz99_2 := blk_frozen BK239.out 2
                go_wp2_with (first | ((with_reducible refine gate_callee (f := 27) rfl ?_); refine goesL_ (some 90) rfl rfl Try.func27 (by kernel_rfl) rfl #[.agg #[.slice Ao21 t249.length co21, .slice Ao24 t250.length co24, .slice Ao25 t251.length co25], .int .i64 1] rfl (by (try simp only [List.map_toArray, List.map_cons, List.map_nil]); first | done | rfl | (simp only [List.length_drop, List.length_take]; rfl)) ?_; (with_reducible refine (laws_heldDesk.calls kj62 _ _ t249 _ _ t250 _ _ t251 1 t268 _ ?side1 ?side2 ?side3 ?side4 ?side5 ?side6 A94.out).mono ?_); (case side1 => repeat (first | exact (Kd.R_reads' HO_240000.out).2.2 | (with_reducible first | apply cA_ | apply cN_ | apply cD_))); (case side2 => exact (Kd.R_reads' HO_240000.out).2.1); (case side3 => repeat (first | exact (Kd.R_reads' HO_240001.out).2.2 | (with_reducible first | apply cA_ | apply cN_ | apply cD_))); (case side4 => exact (Kd.R_reads' HO_240001.out).2.1); (case side5 => repeat (first | exact (Kd.R_reads' HO_240002.out).2.2 | (with_reducible first | apply cA_ | apply cN_ | apply cD_))); (case side6 => exact (Kd.R_reads' HO_240002.out).2.1); rintro e w100 ⟨rfl, hb⟩; refine ⟨_, rfl, ?_⟩; have n0_ := Aside0.mk (Kd.R_below (by (with_reducible repeat (first | apply rA_ | apply rN_ | apply rD_)); exact HO_226000.out) hb); have n1_ := Aside0.mk (Kd.R_below (by (with_reducible repeat (first | apply rA_ | apply rN_ | apply rD_)); exact HO_226001.out) hb); have n2_ := Aside0.mk (Kd.R_below (by (with_reducible repeat (first | apply rA_ | apply rN_ | apply rD_)); exact HO_226002.out) hb); have n3_ := Aside0.mk (Kd.R_below (by (with_reducible repeat (first | apply rA_ | apply rN_ | apply rD_)); exact HO_240000.out) hb); have n4_ := Aside0.mk (Kd.R_below (by (with_reducible repeat (first | apply rA_ | apply rN_ | apply rD_)); exact HO_240001.out) hb); have n5_ := Aside0.mk (Kd.R_below (by (with_reducible repeat (first | apply rA_ | apply rN_ | apply rD_)); exact HO_240002.out) hb); have n6_ := Aside0.mk (Kd.R_below (by (with_reducible repeat (first | apply rA_ | apply rN_ | apply rD_)); exact HO_267000.out) hb); have n7_ := Aside0.mk (Kd.R_below (by (with_reducible repeat (first | apply rA_ | apply rN_ | apply rD_)); exact HO_267001.out) hb); have n8_ := Aside0.mk (Kd.R_below (by (with_reducible repeat (first | apply rA_ | apply rN_ | apply rD_)); exact HO_267002.out) hb); have n9_ := Aside0.mk (blk_below (g := gb225) (o := .cells #[.slice Ao13 t215.length co13, .slice Ao15 t218.length co15, .slice Ao16 t221.length co16] 35 (0, 0)) (by (with_reducible repeat (first | apply lN_ | apply lD_ | apply lA_)); exact BK225.out) hb); have n10_ := Aside0.mk (blk_below (g := gb239) (o := .cells #[.slice Ao21 t249.length co21, .slice Ao24 t250.length co24, .slice Ao25 t251.length co25] 35 (0, 0)) (by (with_reducible repeat (first | apply lN_ | apply lD_ | apply lA_)); exact BK239.out) hb); have n11_ := Aside0.mk (blk_below (g := gb266) (o := .cells #[.slice Ao73 t256.length co73, .slice Ao77 t259.length co77, .slice Ao78 t262.length co78] 35 (0, 0)) (by (with_reducible repeat (first | apply lN_ | apply lD_ | apply lA_)); exact BK266.out) hb); have n12_ := Aside0.mk (below_step (by repeat (first | (with_reducible first | exact HB.out | apply bA_ | apply bN_ | apply bD_ | refine bS_ ?_ GE225.out | refine bS_ ?_ GE239.out | refine bS_ ?_ GE266.out) | exact HB.out)) hb); clear HO_226000; clear HO_226001; clear HO_226002; clear HO_240000; clear HO_240001; clear HO_240002; clear HO_267000; clear HO_267001; clear HO_267002; clear BK225; clear BK239; clear BK266; clear HB; have HO_226000 := n0_; have HO_226001 := n1_; have HO_226002 := n2_; have HO_240000 := n3_; have HO_240001 := n4_; have HO_240002 := n5_; have HO_267000 := n6_; have HO_267001 := n7_; have HO_267002 := n8_; have BK225 := n9_; have BK239 := n10_; have BK266 := n11_; have HB := n12_; clear n0_ n1_ n2_ n3_ n4_ n5_ n6_ n7_ n8_ n9_ n10_ n11_ n12_; (try clear hb); (try clear hb2); (try clear hk); (try clear hi)))
                go_ret
                exact ⟨by first | rfl | (simp [errW_none, errW_some] <;> rfl) | (simp [*, errW_none, errW_some] <;> rfl), by repeat (first | (with_reducible first | exact HB.out | apply bA_ | apply bN_ | apply bD_ | refine bS_ ?_ GE225.out | refine bS_ ?_ GE239.out | refine bS_ ?_ GE266.out) | exact HB.out)⟩
               ·rw [if_neg c96] at H
                exact absurd H (by simp)
          ·rw [if_neg c60] at H
           exact absurd H (by simp)
     ·replace c39 := Bool.eq_false_iff.mpr c39
      subst c39
      have H1 : (none) = some r := by rw [if_neg (show ¬ (false = true) by decide)] at H; exact H
      clear H
      have H := H1
      clear H1
      exact absurd H (by simp)

end Go.Proofs.Ytmmpnigbfiebbaa.PA
