-- Written by a program of this session (wip/tools/myprint.py). Not trusted: Lean checks it.
import Derived.Test.YtmmpnigbfiebbaaPAx0
import Derived.Test.YtmmpnigbfiebbaaPAx3
import Derived.Test.YtmmpnigbfiebbaaPAx4
import Derived.Test.YtmmpnigbfiebbaaPAx5
import Derived.Test.YtmmpnigbfiebbaaPAx7
import Derived.Test.YtmmpnigbfiebbaaPAx26
namespace Go.Proofs.Ytmmpnigbfiebbaa.PA
open Go.RowKit Go.Proofs.YtmmpnigbfiebbaaW.PrintWords Go.Proofs.YtmmpnigbfiebbaaW.PrintLast Go.Proofs.YtmmpnigbfiebbaaW.PrintMore
attribute [local go_sem] max2_int min2_int max_two min_two max_three min_three max_four min_four   -- for this text's walks alone
set_option linter.unusedVariables false
set_option linter.unusedSimpArgs false

/-! ### laws_FnExactDeleteItem: function 12 -/
mutual
def laws_FnExactDeleteItem.j0 : Nat → Int → Bool → Bool → Bool → List ByteArray → List (S23) → List (S23) → List ByteArray → List (S25) → List (S25) → List ByteArray → List (S25) → List (S25) → List ByteArray → List (S25) → List (S25) → Option (Bool)
 | 0, _, _, _, _, _, _, _, _, _, _, _, _, _, _, _, _ => none
 | k + 1, x1, x7, x10, x44, x1171000, x1171001, x1171002, x1192000, x1192001, x1192002, x1202000, x1202001, x1202002, x1213000, x1213001, x1213002 => if x44 = true then (none) else ((laws_toDesk.f k x1171000 x1171001 x1171002).bind fun bt1214 => ((laws_eqDesk.f k x1202000 x1202001 x1202002 bt1214.1 bt1214.2.1 bt1214.2.2).bind fun t1223 => (if t1223 = true then ((laws_markDesk.f k x1202000 x1202001 x1202002 1).bind fun bt1224 => (if bt1224.1 < 0 then (laws_FnExactDeleteItem.j1 k x1 x7 true x1171000 x1171001 x1171002 x1192000 x1192001 x1192002 x1213000 x1213001 x1213002) else ((laws_eqDesk.f k x1213000 x1213001 x1213002 x1192000 x1192001 x1192002).bind fun t1228 => (if t1228 = true then (laws_FnExactDeleteItem.j1 k x1 x7 (x10 != x7) x1171000 x1171001 x1171002 x1192000 x1192001 x1192002 x1213000 x1213001 x1213002) else (laws_FnExactDeleteItem.j1 k x1 x7 true x1171000 x1171001 x1171002 x1192000 x1192001 x1192002 x1213000 x1213001 x1213002))))) else (none))))
def laws_FnExactDeleteItem.j1 : Nat → Int → Bool → Bool → List ByteArray → List (S23) → List (S23) → List ByteArray → List (S25) → List (S25) → List ByteArray → List (S25) → List (S25) → Option (Bool)
 | 0, _, _, _, _, _, _, _, _, _, _, _, _ => none
 | k + 1, x1, x7, x65, x1171000, x1171001, x1171002, x1192000, x1192001, x1192002, x1213000, x1213001, x1213002 => if x65 = true then (none) else ((laws_markDesk.f k x1213000 x1213001 x1213002 1).bind fun bt1229 => ((laws_heldDesk.f k bt1229.2.1 bt1229.2.2.1 bt1229.2.2.2 1).bind fun t1233 => (if t1233 < 0 then (none) else (if t1233 = bt1229.1 then ((laws_toDesk.f k x1171000 x1171001 x1171002).bind fun bt1234 => ((impl_DeleteItem.f k bt1234.1 bt1234.2.1 bt1234.2.2 x1).bind fun bt1243 => ((laws_eqDesk.f k bt1243.1 bt1243.2.1 bt1243.2.2.1 x1192000 x1192001 x1192002).bind fun t1254 => (if t1254 = true then (laws_FnExactDeleteItem.j2 k bt1229.1 (bt1243.2.2.2 != x7) bt1229.2.1 bt1229.2.2.1 bt1229.2.2.2) else (laws_FnExactDeleteItem.j2 k bt1229.1 true bt1229.2.1 bt1229.2.2.1 bt1229.2.2.2))))) else (none)))))
def laws_FnExactDeleteItem.j2 : Nat → Int → Bool → List ByteArray → List (S25) → List (S25) → Option (Bool)
 | 0, _, _, _, _, _ => none
 | k + 1, x12, x92, x1213000, x1213001, x1213002 => if x92 = true then (none) else ((laws_heldDesk.f k x1213000 x1213001 x1213002 1).bind fun t1255 => (if t1255 < 0 then (none) else (if t1255 = x12 then (some true) else (none))))
end
def laws_FnExactDeleteItem.f (k : Nat) (l0_0 : List ByteArray) (l0_1 : List (S23)) (l0_2 : List (S23)) (a1 : Int) : Option (Bool) := (laws_szDesk.f k l0_0 l0_1 l0_2 1048576).bind fun t1171 => (if t1171 < 0 then (some true) else ((laws_toDesk.f k l0_0 l0_1 l0_2).bind fun bt1172 => ((spec_DeleteItem.f k bt1172.1 bt1172.2.1 bt1172.2.2 a1).bind fun bt1181 => ((laws_toDesk.f k l0_0 l0_1 l0_2).bind fun bt1192 => ((impl_DeleteItem.f k bt1192.1 bt1192.2.1 bt1192.2.2 a1).bind fun bt1202 => ((laws_eqDesk.f k bt1202.1 bt1202.2.1 bt1202.2.2.1 bt1181.1 bt1181.2.1 bt1181.2.2.1).bind fun t1213 => (if t1213 = true then (laws_FnExactDeleteItem.j0 k a1 bt1181.2.2.2 bt1202.2.2.2 (bt1202.2.2.2 != bt1181.2.2.2) l0_0 l0_1 l0_2 bt1181.1 bt1181.2.1 bt1181.2.2.1 bt1192.1 bt1192.2.1 bt1192.2.2 bt1202.1 bt1202.2.1 bt1202.2.2.1) else (laws_FnExactDeleteItem.j0 k a1 bt1181.2.2.2 bt1202.2.2.2 true l0_0 l0_1 l0_2 bt1181.1 bt1181.2.1 bt1181.2.2.1 bt1192.1 bt1192.2.1 bt1192.2.2 bt1202.1 bt1202.2.1 bt1202.2.2.1))))))))
theorem laws_FnExactDeleteItem.mono_l : ∀ k, (∀ y0 y1 y2 y3 y4 y5 y6 y7 y8 y9 y10 y11 y12 y13 y14 y15, LeO (laws_FnExactDeleteItem.j0 k y0 y1 y2 y3 y4 y5 y6 y7 y8 y9 y10 y11 y12 y13 y14 y15) (laws_FnExactDeleteItem.j0 (k + 1) y0 y1 y2 y3 y4 y5 y6 y7 y8 y9 y10 y11 y12 y13 y14 y15)) ∧ (∀ y0 y1 y2 y3 y4 y5 y6 y7 y8 y9 y10 y11, LeO (laws_FnExactDeleteItem.j1 k y0 y1 y2 y3 y4 y5 y6 y7 y8 y9 y10 y11) (laws_FnExactDeleteItem.j1 (k + 1) y0 y1 y2 y3 y4 y5 y6 y7 y8 y9 y10 y11)) ∧ (∀ y0 y1 y2 y3 y4, LeO (laws_FnExactDeleteItem.j2 k y0 y1 y2 y3 y4) (laws_FnExactDeleteItem.j2 (k + 1) y0 y1 y2 y3 y4))
 | 0 => ⟨fun _ _ _ _ _ _ _ _ _ _ _ _ _ _ _ _ r h => by simp [laws_FnExactDeleteItem.j0] at h, fun _ _ _ _ _ _ _ _ _ _ _ _ r h => by simp [laws_FnExactDeleteItem.j1] at h, fun _ _ _ _ _ r h => by simp [laws_FnExactDeleteItem.j2] at h⟩
 | k + 1 => by
  obtain ⟨ih0, ih1, ih2⟩ := laws_FnExactDeleteItem.mono_l k
  refine ⟨?_, ?_, ?_⟩
  ·intro y0 y1 y2 y3 y4 y5 y6 y7 y8 y9 y10 y11 y12 y13 y14 y15
   unfold laws_FnExactDeleteItem.j0
   repeat' first
   | (with_reducible exact ih0 _ _ _ _ _ _ _ _ _ _ _ _ _ _ _ _)
   | (with_reducible exact ih1 _ _ _ _ _ _ _ _ _ _ _ _)
   | (with_reducible exact ih2 _ _ _ _ _)
   | (with_reducible exact impl_DeleteItem.mono _ _ _ _ _)
   | (with_reducible exact laws_eqDesk.mono _ _ _ _ _ _ _)
   | (with_reducible exact laws_heldDesk.mono _ _ _ _ _)
   | (with_reducible exact laws_markDesk.mono _ _ _ _ _)
   | (with_reducible exact laws_szDesk.mono _ _ _ _ _)
   | (with_reducible exact laws_toDesk.mono _ _ _ _)
   | (with_reducible exact spec_DeleteItem.mono _ _ _ _ _)
   | (with_reducible exact LeO.refl _)
   | (with_reducible exact LeO.none _)
   | (with_reducible refine LeO.ite ?_ ?_)
   | (with_reducible refine LeO.bind ?_ (fun _ => ?_))
   | exact ih0 _ _ _ _ _ _ _ _ _ _ _ _ _ _ _ _
   | exact ih1 _ _ _ _ _ _ _ _ _ _ _ _
   | exact ih2 _ _ _ _ _
   | exact LeO.none _
   | refine LeO.ite ?_ ?_
   | refine LeO.bind ?_ (fun _ => ?_)
  ·intro y0 y1 y2 y3 y4 y5 y6 y7 y8 y9 y10 y11
   unfold laws_FnExactDeleteItem.j1
   repeat' first
   | (with_reducible exact ih0 _ _ _ _ _ _ _ _ _ _ _ _ _ _ _ _)
   | (with_reducible exact ih1 _ _ _ _ _ _ _ _ _ _ _ _)
   | (with_reducible exact ih2 _ _ _ _ _)
   | (with_reducible exact impl_DeleteItem.mono _ _ _ _ _)
   | (with_reducible exact laws_eqDesk.mono _ _ _ _ _ _ _)
   | (with_reducible exact laws_heldDesk.mono _ _ _ _ _)
   | (with_reducible exact laws_markDesk.mono _ _ _ _ _)
   | (with_reducible exact laws_szDesk.mono _ _ _ _ _)
   | (with_reducible exact laws_toDesk.mono _ _ _ _)
   | (with_reducible exact spec_DeleteItem.mono _ _ _ _ _)
   | (with_reducible exact LeO.refl _)
   | (with_reducible exact LeO.none _)
   | (with_reducible refine LeO.ite ?_ ?_)
   | (with_reducible refine LeO.bind ?_ (fun _ => ?_))
   | exact ih0 _ _ _ _ _ _ _ _ _ _ _ _ _ _ _ _
   | exact ih1 _ _ _ _ _ _ _ _ _ _ _ _
   | exact ih2 _ _ _ _ _
   | exact LeO.none _
   | refine LeO.ite ?_ ?_
   | refine LeO.bind ?_ (fun _ => ?_)
  ·intro y0 y1 y2 y3 y4
   unfold laws_FnExactDeleteItem.j2
   repeat' first
   | (with_reducible exact ih0 _ _ _ _ _ _ _ _ _ _ _ _ _ _ _ _)
   | (with_reducible exact ih1 _ _ _ _ _ _ _ _ _ _ _ _)
   | (with_reducible exact ih2 _ _ _ _ _)
   | (with_reducible exact impl_DeleteItem.mono _ _ _ _ _)
   | (with_reducible exact laws_eqDesk.mono _ _ _ _ _ _ _)
   | (with_reducible exact laws_heldDesk.mono _ _ _ _ _)
   | (with_reducible exact laws_markDesk.mono _ _ _ _ _)
   | (with_reducible exact laws_szDesk.mono _ _ _ _ _)
   | (with_reducible exact laws_toDesk.mono _ _ _ _)
   | (with_reducible exact spec_DeleteItem.mono _ _ _ _ _)
   | (with_reducible exact LeO.refl _)
   | (with_reducible exact LeO.none _)
   | (with_reducible refine LeO.ite ?_ ?_)
   | (with_reducible refine LeO.bind ?_ (fun _ => ?_))
   | exact ih0 _ _ _ _ _ _ _ _ _ _ _ _ _ _ _ _
   | exact ih1 _ _ _ _ _ _ _ _ _ _ _ _
   | exact ih2 _ _ _ _ _
   | exact LeO.none _
   | refine LeO.ite ?_ ?_
   | refine LeO.bind ?_ (fun _ => ?_)
theorem laws_FnExactDeleteItem.mono : ∀ a0 a1 a2 a3 k, LeO (laws_FnExactDeleteItem.f k a0 a1 a2 a3) (laws_FnExactDeleteItem.f (k + 1) a0 a1 a2 a3) := by
 intro a0 a1 a2 a3 k
 obtain ⟨ih0, ih1, ih2⟩ := laws_FnExactDeleteItem.mono_l k
 unfold laws_FnExactDeleteItem.f
 repeat' first
   | (with_reducible exact ih0 _ _ _ _ _ _ _ _ _ _ _ _ _ _ _ _)
   | (with_reducible exact ih1 _ _ _ _ _ _ _ _ _ _ _ _)
   | (with_reducible exact ih2 _ _ _ _ _)
   | (with_reducible exact impl_DeleteItem.mono _ _ _ _ _)
   | (with_reducible exact laws_eqDesk.mono _ _ _ _ _ _ _)
   | (with_reducible exact laws_heldDesk.mono _ _ _ _ _)
   | (with_reducible exact laws_markDesk.mono _ _ _ _ _)
   | (with_reducible exact laws_szDesk.mono _ _ _ _ _)
   | (with_reducible exact laws_toDesk.mono _ _ _ _)
   | (with_reducible exact spec_DeleteItem.mono _ _ _ _ _)
   | (with_reducible exact LeO.refl _)
   | (with_reducible exact LeO.none _)
   | (with_reducible refine LeO.ite ?_ ?_)
   | (with_reducible refine LeO.bind ?_ (fun _ => ?_))
   | exact ih0 _ _ _ _ _ _ _ _ _ _ _ _ _ _ _ _
   | exact ih1 _ _ _ _ _ _ _ _ _ _ _ _
   | exact ih2 _ _ _ _ _
   | exact LeO.none _
   | refine LeO.ite ?_ ?_
   | refine LeO.bind ?_ (fun _ => ?_)
set_option maxHeartbeats 8000000 in
set_option maxRecDepth 100000 in
theorem laws_FnExactDeleteItem.calls (k : Nat) (A0_0 : Option Addr) (c0_0 : Nat) (l0_0 : List ByteArray) (A0_1 : Option Addr) (c0_1 : Nat) (l0_1 : List (S23)) (A0_2 : Option Addr) (c0_2 : Nat) (l0_2 : List (S23)) (a1 : Int) (r : Bool) (w : World) (hr0_0 : Kd.C Kd.string w A0_0 l0_0.length l0_0) (hc0_0 : l0_0.length ≤ c0_0) (hr0_1 : Kd.C k23 w A0_1 l0_1.length l0_1) (hc0_1 : l0_1.length ≤ c0_1) (hr0_2 : Kd.C k23 w A0_2 l0_2.length l0_2) (hc0_2 : l0_2.length ≤ c0_2) (h : laws_FnExactDeleteItem.f k l0_0 l0_1 l0_2 a1 = some r) :
  Calls Try.prog 12 #[.agg #[.slice A0_0 l0_0.length c0_0, .slice A0_1 l0_1.length c0_1, .slice A0_2 l0_2.length c0_2], .int .i64 a1] w fun e w' => e = .returned (.bool r) ∧ Below w.heap.size w w' := by
 have hu45 := Try.underlying45
 have hu35 := Try.underlying35
 have HR0_0 := Aside0.mk hr0_0
 have HC0_0 := Aside0.mk hc0_0
 clear hr0_0 hc0_0
 have HR0_1 := Aside0.mk hr0_1
 have HC0_1 := Aside0.mk hc0_1
 clear hr0_1 hc0_1
 have HR0_2 := Aside0.mk hr0_2
 have HC0_2 := Aside0.mk hc0_2
 clear hr0_2 hc0_2
 have HB := Aside0.mk (Below.refl w.heap.size w)
 have H : ((laws_szDesk.f k l0_0 l0_1 l0_2 1048576).bind fun t1171 => (if t1171 < 0 then (some true) else ((laws_toDesk.f k l0_0 l0_1 l0_2).bind fun bt1172 => ((spec_DeleteItem.f k bt1172.1 bt1172.2.1 bt1172.2.2 a1).bind fun bt1181 => ((laws_toDesk.f k l0_0 l0_1 l0_2).bind fun bt1192 => ((impl_DeleteItem.f k bt1192.1 bt1192.2.1 bt1192.2.2 a1).bind fun bt1202 => ((laws_eqDesk.f k bt1202.1 bt1202.2.1 bt1202.2.2.1 bt1181.1 bt1181.2.1 bt1181.2.2.1).bind fun t1213 => (if t1213 = true then (laws_FnExactDeleteItem.j0 k a1 bt1181.2.2.2 bt1202.2.2.2 (bt1202.2.2.2 != bt1181.2.2.2) l0_0 l0_1 l0_2 bt1181.1 bt1181.2.1 bt1181.2.2.1 bt1192.1 bt1192.2.1 bt1192.2.2 bt1202.1 bt1202.2.1 bt1202.2.2.1) else (laws_FnExactDeleteItem.j0 k a1 bt1181.2.2.2 bt1202.2.2.2 true l0_0 l0_1 l0_2 bt1181.1 bt1181.2.1 bt1181.2.2.1 bt1192.1 bt1192.2.1 bt1192.2.2 bt1202.1 bt1202.2.1 bt1202.2.2.1))))))))) = some r := h
 clear h
 replace H := Option.bind_eq_some_iff.mp H
 obtain ⟨t1171, A30, H⟩ := H
 try dsimp only at H
 have A3 := Aside0.mk A30
 clear A30
 by_cases c4 : t1171 < 0
 ·rw [if_pos c4] at H
  have c4b0 : decide (t1171 < 0) = true := decide_eq_true c4
  clear c4
  obtain rfl := Option.some.inj H
  go_enter Try.func12, Try.ntmps12
  go_wp2_with (first | ((with_reducible refine gate_dst (N := 2) rfl ?_); refine box_event ?hg (N := 2) ?hd (cs := #[.slice A0_0 l0_0.length c0_0, .slice A0_1 l0_1.length c0_1, .slice A0_2 l0_2.length c0_2]) (t := 45) ?hr ?_; (case hd => rfl); (case hg => rfl); (case hr => first | (go_simp; done) | (go_simp; rfl)); intro gb1170 hg w5 hbox hb; have n0_ := Aside0.mk (bt_ HB hb); have n1_ := Aside0.mk (hbox); have n2_ := gz_ hg HB; have n3_ := gz_ hg HB; clear HB; have HB := n0_; have BK1170 := n1_; have GW1170 := n2_; have GE1170 := n3_; clear n0_ n1_ n2_ n3_; clear hb hbox hg; have hcz6_0 := cz0_ BK1170; have hcz6_1 := cz1_ BK1170; have hcz6_2 := cz2_ BK1170; have hfz6_0 := fz_ BK1170 0; have hfz6_1 := fz_ BK1170 1; have hfz6_2 := fz_ BK1170 2) | ((with_reducible refine gate_callee (f := 28) rfl ?_); refine goesL_ (some 18) rfl rfl Try.func28 (by kernel_rfl) rfl #[.agg #[.slice A0_0 l0_0.length c0_0, .slice A0_1 l0_1.length c0_1, .slice A0_2 l0_2.length c0_2], .int .i64 1048576] rfl args_ ?_; (with_reducible refine (laws_szDesk.calls k _ _ l0_0 _ _ l0_1 _ _ l0_2 1048576 t1171 _ ?side1 ?side2 ?side3 ?side4 ?side5 ?side6 A3.out).mono ?_); (case side1 => exact cb_ HR0_0 HB); (case side2 => exact HC0_0.out); (case side3 => exact cb_ HR0_1 HB); (case side4 => exact HC0_1.out); (case side5 => exact cb_ HR0_2 HB); (case side6 => exact HC0_2.out); rintro e w7 ⟨rfl, hb⟩; refine ⟨_, rfl, ?_⟩; have n0_ := Aside0.mk (lb_ BK1170 hb); have n1_ := Aside0.mk (below_step (bb1_ HB GE1170) hb); clear BK1170; clear HB; have BK1170 := n0_; have HB := n1_; clear n0_ n1_; (try clear hb); (try clear hb2); (try clear hk); (try clear hi)))
  go_ret
  exact ⟨by first | rfl | (simp [errW_none, errW_some] <;> rfl) | (simp [*, errW_none, errW_some] <;> rfl), bb1_ HB GE1170⟩
 ·rw [if_neg c4] at H
  have c4b0 : decide (t1171 < 0) = false := decide_eq_false c4
  clear c4
  replace H := Option.bind_eq_some_iff.mp H
  obtain ⟨⟨t1172, t1175, t1178⟩, A80, H⟩ := H
  try dsimp only at H
  have A8 := Aside0.mk A80
  clear A80
  replace H := Option.bind_eq_some_iff.mp H
  obtain ⟨⟨t1181, t1184, t1187, t1190⟩, A90, H⟩ := H
  try dsimp only at H
  have A9 := Aside0.mk A90
  clear A90
  replace H := Option.bind_eq_some_iff.mp H
  obtain ⟨⟨t1192, t1195, t1198⟩, A100, H⟩ := H
  try dsimp only at H
  have A10 := Aside0.mk A100
  clear A100
  replace H := Option.bind_eq_some_iff.mp H
  obtain ⟨⟨t1202, t1205, t1208, t1211⟩, A110, H⟩ := H
  try dsimp only at H
  have A11 := Aside0.mk A110
  clear A110
  have HC12 := Aside0.mk H
  clear H
  go_enter Try.func12, Try.ntmps12
  go_upto_region 8 with (first | ((with_reducible refine gate_dst (N := 2) rfl ?_); refine box_event ?hg (N := 2) ?hd (cs := #[.slice A0_0 l0_0.length c0_0, .slice A0_1 l0_1.length c0_1, .slice A0_2 l0_2.length c0_2]) (t := 45) ?hr ?_; (case hd => rfl); (case hg => rfl); (case hr => first | (go_simp; done) | (go_simp; rfl)); intro gb1170 hg w13 hbox hb; have n0_ := Aside0.mk (bt_ HB hb); have n1_ := Aside0.mk (hbox); have n2_ := gz_ hg HB; have n3_ := gz_ hg HB; clear HB; have HB := n0_; have BK1170 := n1_; have GW1170 := n2_; have GE1170 := n3_; clear n0_ n1_ n2_ n3_; clear hb hbox hg; have hcz14_0 := cz0_ BK1170; have hcz14_1 := cz1_ BK1170; have hcz14_2 := cz2_ BK1170; have hfz14_0 := fz_ BK1170 0; have hfz14_1 := fz_ BK1170 1; have hfz14_2 := fz_ BK1170 2) | ((with_reducible refine gate_callee (f := 28) rfl ?_); refine goesL_ (some 18) rfl rfl Try.func28 (by kernel_rfl) rfl #[.agg #[.slice A0_0 l0_0.length c0_0, .slice A0_1 l0_1.length c0_1, .slice A0_2 l0_2.length c0_2], .int .i64 1048576] rfl args_ ?_; (with_reducible refine (laws_szDesk.calls k _ _ l0_0 _ _ l0_1 _ _ l0_2 1048576 t1171 _ ?side1 ?side2 ?side3 ?side4 ?side5 ?side6 A3.out).mono ?_); (case side1 => exact cb_ HR0_0 HB); (case side2 => exact HC0_0.out); (case side3 => exact cb_ HR0_1 HB); (case side4 => exact HC0_1.out); (case side5 => exact cb_ HR0_2 HB); (case side6 => exact HC0_2.out); rintro e w15 ⟨rfl, hb⟩; refine ⟨_, rfl, ?_⟩; have n0_ := Aside0.mk (lb_ BK1170 hb); have n1_ := Aside0.mk (below_step (bb1_ HB GE1170) hb); clear BK1170; clear HB; have BK1170 := n0_; have HB := n1_; clear n0_ n1_; (try clear hb); (try clear hb2); (try clear hk); (try clear hi); have hcz16_0 := cz0_ BK1170; have hcz16_1 := cz1_ BK1170; have hcz16_2 := cz2_ BK1170; have hfz16_0 := fz_ BK1170 0; have hfz16_1 := fz_ BK1170 1; have hfz16_2 := fz_ BK1170 2) | ((with_reducible refine gate_callee (f := 30) rfl ?_); refine goesL_ (some 23) rfl rfl Try.func30 (by kernel_rfl) rfl #[.agg #[.slice A0_0 l0_0.length c0_0, .slice A0_1 l0_1.length c0_1, .slice A0_2 l0_2.length c0_2]] rfl args_ ?_; (with_reducible refine (laws_toDesk.calls k _ _ l0_0 _ _ l0_1 _ _ l0_2 t1172 t1175 t1178 _ ?side1 ?side2 ?side3 ?side4 ?side5 ?side6 A8.out).mono ?_); (case side1 => exact cb_ HR0_0 HB); (case side2 => exact HC0_0.out); (case side3 => exact cb_ HR0_1 HB); (case side4 => exact HC0_1.out); (case side5 => exact cb_ HR0_2 HB); (case side6 => exact HC0_2.out); rintro e w17 ⟨v1173, v1176, v1179, rfl, ho0, ho1, ho2, hb⟩; refine ⟨_, rfl, ?_⟩; have n0_ := Aside0.mk (Kd.R_lower ho0 (below_size (bb1_ HB GE1170))); have n1_ := Aside0.mk (Kd.R_lower ho1 (below_size (bb1_ HB GE1170))); have n2_ := Aside0.mk (Kd.R_lower ho2 (below_size (bb1_ HB GE1170))); have n3_ := Aside0.mk (lb_ BK1170 hb); have n4_ := Aside0.mk (below_step (bb1_ HB GE1170) hb); clear BK1170; clear HB; have HO1174 := n0_; have HO1177 := n1_; have HO1180 := n2_; have BK1170 := n3_; have HB := n4_; clear n0_ n1_ n2_ n3_ n4_; (try clear hb); (try clear hb2); (try clear hk); (try clear hi); (try clear ho0); (try clear ho1); (try clear ho2); obtain ⟨Ao18, co18, eo18⟩ := Kd.R_slice HO1174.out; subst eo18; obtain ⟨Ao19, co19, eo19⟩ := Kd.R_slice HO1177.out; subst eo19; obtain ⟨Ao20, co20, eo20⟩ := Kd.R_slice HO1180.out; subst eo20) | ((with_reducible refine gate_callee (f := 45) rfl ?_); refine goesL_ (some 25) rfl rfl Try.func45 (by kernel_rfl) rfl #[.agg #[.slice Ao18 t1172.length co18, .slice Ao19 t1175.length co19, .slice Ao20 t1178.length co20], .int .i64 a1] rfl args_ ?_; (with_reducible refine (spec_DeleteItem.calls k _ _ t1172 _ _ t1175 _ _ t1178 a1 t1181 t1184 t1187 t1190 _ ?side1 ?side2 ?side3 ?side4 ?side5 ?side6 A9.out).mono ?_); (case side1 => exact cr_ HO1174); (case side2 => exact (Kd.R_reads' HO1174.out).2.1); (case side3 => exact cr_ HO1177); (case side4 => exact (Kd.R_reads' HO1177.out).2.1); (case side5 => exact cr_ HO1180); (case side6 => exact (Kd.R_reads' HO1180.out).2.1); rintro e w21 ⟨v1182, v1185, v1188, rfl, ho0, ho1, ho2, hb⟩; refine ⟨_, rfl, ?_⟩; have n0_ := Aside0.mk (Kd.R_elder' (ra_ HO1174) (Kd.R_base ho0) hb); have n1_ := Aside0.mk (Kd.R_mono (Kd.R_told (Kd.R_told (Kd.R_old (ra_ HO1177) hb) (Kd.R_base ho1)) (Kd.R_base ho2)) (fun _ h_ => h_.1)); have n2_ := Aside0.mk (Kd.R_mono (Kd.R_told (Kd.R_told (Kd.R_old (ra_ HO1180) hb) (Kd.R_base ho1)) (Kd.R_base ho2)) (fun _ h_ => h_.1)); have n3_ := Aside0.mk (Kd.R_lower (Kd.R_new' ho0 (Kd.R_lt (ra_ HO1174))) (below_size (bb1_ HB GE1170))); have n4_ := Aside0.mk (Kd.R_lower (Kd.R_new' (Kd.R_new' ho1 (Kd.R_lt (ra_ HO1177))) (Kd.R_lt (ra_ HO1180))) (below_size (bb1_ HB GE1170))); have n5_ := Aside0.mk (Kd.R_lower (Kd.R_new' (Kd.R_new' ho2 (Kd.R_lt (ra_ HO1177))) (Kd.R_lt (ra_ HO1180))) (below_size (bb1_ HB GE1170))); have n6_ := Aside0.mk (lb_ BK1170 hb); have n7_ := Aside0.mk (below_step (bb1_ HB GE1170) hb); clear HO1174; clear HO1177; clear HO1180; clear BK1170; clear HB; have HO1174 := n0_; have HO1177 := n1_; have HO1180 := n2_; have HO1183 := n3_; have HO1186 := n4_; have HO1189 := n5_; have BK1170 := n6_; have HB := n7_; clear n0_ n1_ n2_ n3_ n4_ n5_ n6_ n7_; (try clear hb); (try clear hb2); (try clear hk); (try clear hi); (try clear ho0); (try clear ho1); (try clear ho2)) | ((with_reducible refine gate_dst (N := 6) rfl ?_); refine box_event ?hg (N := 6) ?hd (cs := #[.slice none 0 0, .slice none 0 0, .slice none 0 0]) (t := 35) ?hr ?_; (case hd => rfl); (case hg => rfl); (case hr => first | (go_simp; done) | (go_simp; rfl)); intro gb1191 hg w22 hbox hb; have n0_ := Aside0.mk (Kd.R_below (ra_ HO1174) hb); have n1_ := Aside0.mk (Kd.R_below (ra_ HO1177) hb); have n2_ := Aside0.mk (Kd.R_below (ra_ HO1180) hb); have n3_ := Aside0.mk (Kd.R_below (ra_ HO1183) hb); have n4_ := Aside0.mk (Kd.R_below (ra_ HO1186) hb); have n5_ := Aside0.mk (Kd.R_below (ra_ HO1189) hb); have n6_ := Aside0.mk (lb_ BK1170 hb); have n7_ := Aside0.mk (below_step (bb1_ HB GE1170) hb); have n8_ := Aside0.mk (hbox); have n9_ := gy_ hg (bb1_ HB GE1170); have n10_ := gy_ hg (bb1_ HB GE1170); have n11_ := nl_ hg BK1170; have n12_ := ng_ hg BK1170; clear HO1174; clear HO1177; clear HO1180; clear HO1183; clear HO1186; clear HO1189; clear BK1170; clear HB; have HO1174 := n0_; have HO1177 := n1_; have HO1180 := n2_; have HO1183 := n3_; have HO1186 := n4_; have HO1189 := n5_; have BK1170 := n6_; have HB := n7_; have BK1191 := n8_; have GW1191 := n9_; have GE1191 := n10_; have NB1170_1191 := n11_; have NB1191_1170 := n12_; clear n0_ n1_ n2_ n3_ n4_ n5_ n6_ n7_ n8_ n9_ n10_ n11_ n12_; clear hb hbox hg; obtain ⟨Ao23, co23, eo23⟩ := Kd.R_slice HO1183.out; subst eo23; have hnb24 := NB1191_1170.out; have hnc24 := NB1170_1191.out; have hcz25_0 := cz0_ BK1191; have hcz25_1 := cz1_ BK1191; have hcz25_2 := cz2_ BK1191; have hfz25_0 := fz_ BK1191 0; have hfz25_1 := fz_ BK1191 1; have hfz25_2 := fz_ BK1191 2; obtain ⟨Ao26, co26, eo26⟩ := Kd.R_slice HO1186.out; subst eo26; obtain ⟨Ao27, co27, eo27⟩ := Kd.R_slice HO1189.out; subst eo27; have hcz28_0 := cz0_ BK1170; have hcz28_1 := cz1_ BK1170; have hcz28_2 := cz2_ BK1170; have hfz28_0 := fz_ BK1170 0; have hfz28_1 := fz_ BK1170 1; have hfz28_2 := fz_ BK1170 2) | ((with_reducible refine gate_callee (f := 30) rfl ?_); refine goesL_ (some 29) rfl rfl Try.func30 (by kernel_rfl) rfl #[.agg #[.slice A0_0 l0_0.length c0_0, .slice A0_1 l0_1.length c0_1, .slice A0_2 l0_2.length c0_2]] rfl args_ ?_; (with_reducible refine (laws_toDesk.calls k _ _ l0_0 _ _ l0_1 _ _ l0_2 t1192 t1195 t1198 _ ?side1 ?side2 ?side3 ?side4 ?side5 ?side6 A10.out).mono ?_); (case side1 => exact Kd.C_below HR0_0.out (bb2_ HB GE1170 GE1191)); (case side2 => exact HC0_0.out); (case side3 => exact Kd.C_below HR0_1.out (bb2_ HB GE1170 GE1191)); (case side4 => exact HC0_1.out); (case side5 => exact Kd.C_below HR0_2.out (bb2_ HB GE1170 GE1191)); (case side6 => exact HC0_2.out); rintro e w29 ⟨v1193, v1196, v1199, rfl, ho0, ho1, ho2, hb⟩; refine ⟨_, rfl, ?_⟩; have n0_ := Aside0.mk (Kd.R_elder' (rf_ (fm_ (fr_ (fr_ (fr_ (ft_ HO1174 BK1191) 0 (.slice Ao23 t1181.length co23)) 1 (.slice Ao26 t1184.length co26)) 2 (.slice Ao27 t1187.length co27)))) (Kd.R_base ho0) hb); have n1_ := Aside0.mk (Kd.R_mono (Kd.R_told (Kd.R_told (Kd.R_old (rf_ (fm_ (fr_ (fr_ (fr_ (ft_ HO1177 BK1191) 0 (.slice Ao23 t1181.length co23)) 1 (.slice Ao26 t1184.length co26)) 2 (.slice Ao27 t1187.length co27)))) hb) (Kd.R_base ho1)) (Kd.R_base ho2)) (fun _ h_ => h_.1)); have n2_ := Aside0.mk (Kd.R_mono (Kd.R_told (Kd.R_told (Kd.R_old (rf_ (fm_ (fr_ (fr_ (fr_ (ft_ HO1180 BK1191) 0 (.slice Ao23 t1181.length co23)) 1 (.slice Ao26 t1184.length co26)) 2 (.slice Ao27 t1187.length co27)))) hb) (Kd.R_base ho1)) (Kd.R_base ho2)) (fun _ h_ => h_.1)); have n3_ := Aside0.mk (Kd.R_elder' (rf_ (fm_ (fr_ (fr_ (fr_ (ft_ HO1183 BK1191) 0 (.slice Ao23 t1181.length co23)) 1 (.slice Ao26 t1184.length co26)) 2 (.slice Ao27 t1187.length co27)))) (Kd.R_base ho0) hb); have n4_ := Aside0.mk (Kd.R_mono (Kd.R_told (Kd.R_told (Kd.R_old (rf_ (fm_ (fr_ (fr_ (fr_ (ft_ HO1186 BK1191) 0 (.slice Ao23 t1181.length co23)) 1 (.slice Ao26 t1184.length co26)) 2 (.slice Ao27 t1187.length co27)))) hb) (Kd.R_base ho1)) (Kd.R_base ho2)) (fun _ h_ => h_.1)); have n5_ := Aside0.mk (Kd.R_mono (Kd.R_told (Kd.R_told (Kd.R_old (rf_ (fm_ (fr_ (fr_ (fr_ (ft_ HO1189 BK1191) 0 (.slice Ao23 t1181.length co23)) 1 (.slice Ao26 t1184.length co26)) 2 (.slice Ao27 t1187.length co27)))) hb) (Kd.R_base ho1)) (Kd.R_base ho2)) (fun _ h_ => h_.1)); have n6_ := Aside0.mk (Kd.R_lower (Kd.R_new' (Kd.R_new' ho0 (Kd.R_lt (rf_ (fm_ (fr_ (fr_ (fr_ (ft_ HO1174 BK1191) 0 (.slice Ao23 t1181.length co23)) 1 (.slice Ao26 t1184.length co26)) 2 (.slice Ao27 t1187.length co27)))))) (Kd.R_lt (rf_ (fm_ (fr_ (fr_ (fr_ (ft_ HO1183 BK1191) 0 (.slice Ao23 t1181.length co23)) 1 (.slice Ao26 t1184.length co26)) 2 (.slice Ao27 t1187.length co27)))))) (below_size (bb2_ HB GE1170 GE1191))); have n7_ := Aside0.mk (Kd.R_lower (Kd.R_new' (Kd.R_new' (Kd.R_new' (Kd.R_new' ho1 (Kd.R_lt (rf_ (fm_ (fr_ (fr_ (fr_ (ft_ HO1177 BK1191) 0 (.slice Ao23 t1181.length co23)) 1 (.slice Ao26 t1184.length co26)) 2 (.slice Ao27 t1187.length co27)))))) (Kd.R_lt (rf_ (fm_ (fr_ (fr_ (fr_ (ft_ HO1180 BK1191) 0 (.slice Ao23 t1181.length co23)) 1 (.slice Ao26 t1184.length co26)) 2 (.slice Ao27 t1187.length co27)))))) (Kd.R_lt (rf_ (fm_ (fr_ (fr_ (fr_ (ft_ HO1186 BK1191) 0 (.slice Ao23 t1181.length co23)) 1 (.slice Ao26 t1184.length co26)) 2 (.slice Ao27 t1187.length co27)))))) (Kd.R_lt (rf_ (fm_ (fr_ (fr_ (fr_ (ft_ HO1189 BK1191) 0 (.slice Ao23 t1181.length co23)) 1 (.slice Ao26 t1184.length co26)) 2 (.slice Ao27 t1187.length co27)))))) (below_size (bb2_ HB GE1170 GE1191))); have n8_ := Aside0.mk (Kd.R_lower (Kd.R_new' (Kd.R_new' (Kd.R_new' (Kd.R_new' ho2 (Kd.R_lt (rf_ (fm_ (fr_ (fr_ (fr_ (ft_ HO1177 BK1191) 0 (.slice Ao23 t1181.length co23)) 1 (.slice Ao26 t1184.length co26)) 2 (.slice Ao27 t1187.length co27)))))) (Kd.R_lt (rf_ (fm_ (fr_ (fr_ (fr_ (ft_ HO1180 BK1191) 0 (.slice Ao23 t1181.length co23)) 1 (.slice Ao26 t1184.length co26)) 2 (.slice Ao27 t1187.length co27)))))) (Kd.R_lt (rf_ (fm_ (fr_ (fr_ (fr_ (ft_ HO1186 BK1191) 0 (.slice Ao23 t1181.length co23)) 1 (.slice Ao26 t1184.length co26)) 2 (.slice Ao27 t1187.length co27)))))) (Kd.R_lt (rf_ (fm_ (fr_ (fr_ (fr_ (ft_ HO1189 BK1191) 0 (.slice Ao23 t1181.length co23)) 1 (.slice Ao26 t1184.length co26)) 2 (.slice Ao27 t1187.length co27)))))) (below_size (bb2_ HB GE1170 GE1191))); have n9_ := Aside0.mk (blk_below (g := gb1170) (o := .cells #[.slice A0_0 l0_0.length c0_0, .slice A0_1 l0_1.length c0_1, .slice A0_2 l0_2.length c0_2] 45 (0, 0)) (by (with_reducible repeat (first | apply lN_ | apply lD_ | apply lA_)); refine blk_far ?_ NB1170_1191.out _; (with_reducible repeat (first | apply lN_ | apply lD_ | apply lA_)); refine blk_far ?_ NB1170_1191.out _; (with_reducible repeat (first | apply lN_ | apply lD_ | apply lA_)); refine blk_far ?_ NB1170_1191.out _; (with_reducible repeat (first | apply lN_ | apply lD_ | apply lA_)); exact BK1170.out) hb); have n10_ := Aside0.mk (blk_below (g := gb1191) (o := .cells #[.slice Ao23 t1181.length co23, .slice Ao26 t1184.length co26, .slice Ao27 t1187.length co27] 35 (0, 0)) (by (with_reducible repeat (first | apply lN_ | apply lD_ | apply lA_)); refine blk_put (cs := #[.slice Ao23 t1181.length co23, .slice Ao26 t1184.length co26, .slice none 0 0]) ?_ 2 _ rfl; (with_reducible repeat (first | apply lN_ | apply lD_ | apply lA_)); refine blk_put (cs := #[.slice Ao23 t1181.length co23, .slice none 0 0, .slice none 0 0]) ?_ 1 _ rfl; (with_reducible repeat (first | apply lN_ | apply lD_ | apply lA_)); refine blk_put (cs := #[.slice none 0 0, .slice none 0 0, .slice none 0 0]) ?_ 0 _ rfl; (with_reducible repeat (first | apply lN_ | apply lD_ | apply lA_)); exact BK1191.out) hb); have n11_ := Aside0.mk (below_step (bb2_ HB GE1170 GE1191) hb); clear HO1174; clear HO1177; clear HO1180; clear HO1183; clear HO1186; clear HO1189; clear BK1170; clear BK1191; clear HB; have HO1174 := n0_; have HO1177 := n1_; have HO1180 := n2_; have HO1183 := n3_; have HO1186 := n4_; have HO1189 := n5_; have HO1194 := n6_; have HO1197 := n7_; have HO1200 := n8_; have BK1170 := n9_; have BK1191 := n10_; have HB := n11_; clear n0_ n1_ n2_ n3_ n4_ n5_ n6_ n7_ n8_ n9_ n10_ n11_; (try clear hb); (try clear hb2); (try clear hk); (try clear hi); (try clear ho0); (try clear ho1); (try clear ho2)) | ((with_reducible refine gate_dst (N := 8) rfl ?_); refine box_event ?hg (N := 8) ?hd (cs := #[.slice none 0 0, .slice none 0 0, .slice none 0 0]) (t := 35) ?hr ?_; (case hd => rfl); (case hg => rfl); (case hr => first | (go_simp; done) | (go_simp; rfl)); intro gb1201 hg w30 hbox hb; have n0_ := Aside0.mk (Kd.R_below (ra_ HO1174) hb); have n1_ := Aside0.mk (Kd.R_below (ra_ HO1177) hb); have n2_ := Aside0.mk (Kd.R_below (ra_ HO1180) hb); have n3_ := Aside0.mk (Kd.R_below (ra_ HO1183) hb); have n4_ := Aside0.mk (Kd.R_below (ra_ HO1186) hb); have n5_ := Aside0.mk (Kd.R_below (ra_ HO1189) hb); have n6_ := Aside0.mk (Kd.R_below (ra_ HO1194) hb); have n7_ := Aside0.mk (Kd.R_below (ra_ HO1197) hb); have n8_ := Aside0.mk (Kd.R_below (ra_ HO1200) hb); have n9_ := Aside0.mk (lb_ BK1170 hb); have n10_ := Aside0.mk (lb_ BK1191 hb); have n11_ := Aside0.mk (below_step (bb2_ HB GE1170 GE1191) hb); have n12_ := Aside0.mk (hbox); have n13_ := gy_ hg (bb2_ HB GE1170 GE1191); have n14_ := gy_ hg (bb2_ HB GE1170 GE1191); have n15_ := nl_ hg BK1170; have n16_ := ng_ hg BK1170; have n17_ := nl_ hg BK1191; have n18_ := ng_ hg BK1191; clear HO1174; clear HO1177; clear HO1180; clear HO1183; clear HO1186; clear HO1189; clear HO1194; clear HO1197; clear HO1200; clear BK1170; clear BK1191; clear HB; have HO1174 := n0_; have HO1177 := n1_; have HO1180 := n2_; have HO1183 := n3_; have HO1186 := n4_; have HO1189 := n5_; have HO1194 := n6_; have HO1197 := n7_; have HO1200 := n8_; have BK1170 := n9_; have BK1191 := n10_; have HB := n11_; have BK1201 := n12_; have GW1201 := n13_; have GE1201 := n14_; have NB1170_1201 := n15_; have NB1201_1170 := n16_; have NB1191_1201 := n17_; have NB1201_1191 := n18_; clear n0_ n1_ n2_ n3_ n4_ n5_ n6_ n7_ n8_ n9_ n10_ n11_ n12_ n13_ n14_ n15_ n16_ n17_ n18_; clear hb hbox hg; obtain ⟨Ao31, co31, eo31⟩ := Kd.R_slice HO1194.out; subst eo31; have hnb32 := NB1201_1170.out; have hnc32 := NB1170_1201.out; have hnb33 := NB1201_1191.out; have hnc33 := NB1191_1201.out; have hcz34_0 := cz0_ BK1201; have hcz34_1 := cz1_ BK1201; have hcz34_2 := cz2_ BK1201; have hfz34_0 := fz_ BK1201 0; have hfz34_1 := fz_ BK1201 1; have hfz34_2 := fz_ BK1201 2; obtain ⟨Ao35, co35, eo35⟩ := Kd.R_slice HO1197.out; subst eo35; obtain ⟨Ao36, co36, eo36⟩ := Kd.R_slice HO1200.out; subst eo36) | ((with_reducible refine gate_callee (f := 46) rfl ?_); refine goesL_ (some 33) rfl rfl Try.func46 (by kernel_rfl) rfl #[.agg #[.slice Ao31 t1192.length co31, .slice Ao35 t1195.length co35, .slice Ao36 t1198.length co36], .int .i64 a1] rfl args_ ?_; (with_reducible refine (impl_DeleteItem.calls k _ _ t1192 _ _ t1195 _ _ t1198 a1 t1202 t1205 t1208 t1211 _ ?side1 ?side2 ?side3 ?side4 ?side5 ?side6 A11.out).mono ?_); (case side1 => refine (Kd.R_reads' (e := 9) (base := w.heap.size) (ok := fun k_ => ((True ∧ some k_ ≠ (.slice Ao18 t1172.length co18 : Value).ownBlock) ∧ some k_ ≠ (.slice Ao23 t1181.length co23 : Value).ownBlock)) (n := t1192.length) (c := co31) ?_).2.2; exact (rf_ (fm_ (fr_ (fr_ (fr_ (ft_ HO1194 BK1201) 0 (.slice Ao31 t1192.length co31)) 1 (.slice Ao35 t1195.length co35)) 2 (.slice Ao36 t1198.length co36))))); (case side2 => exact (Kd.R_reads' HO1194.out).2.1); (case side3 => refine (Kd.R_reads' (e := 25) (base := w.heap.size) (ok := fun k_ => ((((some k_ ≠ (.slice Ao36 t1198.length co36 : Value).ownBlock ∧ some k_ ≠ (.slice Ao19 t1175.length co19 : Value).ownBlock) ∧ some k_ ≠ (.slice Ao20 t1178.length co20 : Value).ownBlock) ∧ some k_ ≠ (.slice Ao26 t1184.length co26 : Value).ownBlock) ∧ some k_ ≠ (.slice Ao27 t1187.length co27 : Value).ownBlock)) (n := t1195.length) (c := co35) ?_).2.2; exact (rf_ (fm_ (fr_ (fr_ (fr_ (ft_ HO1197 BK1201) 0 (.slice Ao31 t1192.length co31)) 1 (.slice Ao35 t1195.length co35)) 2 (.slice Ao36 t1198.length co36))))); (case side4 => exact (Kd.R_reads' HO1197.out).2.1); (case side5 => refine (Kd.R_reads' (e := 25) (base := w.heap.size) (ok := fun k_ => ((((some k_ ≠ (.slice Ao35 t1195.length co35 : Value).ownBlock ∧ some k_ ≠ (.slice Ao19 t1175.length co19 : Value).ownBlock) ∧ some k_ ≠ (.slice Ao20 t1178.length co20 : Value).ownBlock) ∧ some k_ ≠ (.slice Ao26 t1184.length co26 : Value).ownBlock) ∧ some k_ ≠ (.slice Ao27 t1187.length co27 : Value).ownBlock)) (n := t1198.length) (c := co36) ?_).2.2; exact (rf_ (fm_ (fr_ (fr_ (fr_ (ft_ HO1200 BK1201) 0 (.slice Ao31 t1192.length co31)) 1 (.slice Ao35 t1195.length co35)) 2 (.slice Ao36 t1198.length co36))))); (case side6 => exact (Kd.R_reads' HO1200.out).2.1); rintro e w37 ⟨v1203, v1206, v1209, rfl, ho0, ho1, ho2, hb⟩; refine ⟨_, rfl, ?_⟩; have n0_ := Aside0.mk (Kd.R_elder' (rf_ (fm_ (fr_ (fr_ (fr_ (ft_ HO1174 BK1201) 0 (.slice Ao31 t1192.length co31)) 1 (.slice Ao35 t1195.length co35)) 2 (.slice Ao36 t1198.length co36)))) (Kd.R_base ho0) hb); have n1_ := Aside0.mk (Kd.R_mono (Kd.R_told (Kd.R_told (Kd.R_old (rf_ (fm_ (fr_ (fr_ (fr_ (ft_ HO1177 BK1201) 0 (.slice Ao31 t1192.length co31)) 1 (.slice Ao35 t1195.length co35)) 2 (.slice Ao36 t1198.length co36)))) hb) (Kd.R_base ho1)) (Kd.R_base ho2)) (fun _ h_ => h_.1)); have n2_ := Aside0.mk (Kd.R_mono (Kd.R_told (Kd.R_told (Kd.R_old (rf_ (fm_ (fr_ (fr_ (fr_ (ft_ HO1180 BK1201) 0 (.slice Ao31 t1192.length co31)) 1 (.slice Ao35 t1195.length co35)) 2 (.slice Ao36 t1198.length co36)))) hb) (Kd.R_base ho1)) (Kd.R_base ho2)) (fun _ h_ => h_.1)); have n3_ := Aside0.mk (Kd.R_elder' (rf_ (fm_ (fr_ (fr_ (fr_ (ft_ HO1183 BK1201) 0 (.slice Ao31 t1192.length co31)) 1 (.slice Ao35 t1195.length co35)) 2 (.slice Ao36 t1198.length co36)))) (Kd.R_base ho0) hb); have n4_ := Aside0.mk (Kd.R_mono (Kd.R_told (Kd.R_told (Kd.R_old (rf_ (fm_ (fr_ (fr_ (fr_ (ft_ HO1186 BK1201) 0 (.slice Ao31 t1192.length co31)) 1 (.slice Ao35 t1195.length co35)) 2 (.slice Ao36 t1198.length co36)))) hb) (Kd.R_base ho1)) (Kd.R_base ho2)) (fun _ h_ => h_.1)); have n5_ := Aside0.mk (Kd.R_mono (Kd.R_told (Kd.R_told (Kd.R_old (rf_ (fm_ (fr_ (fr_ (fr_ (ft_ HO1189 BK1201) 0 (.slice Ao31 t1192.length co31)) 1 (.slice Ao35 t1195.length co35)) 2 (.slice Ao36 t1198.length co36)))) hb) (Kd.R_base ho1)) (Kd.R_base ho2)) (fun _ h_ => h_.1)); have n6_ := Aside0.mk (Kd.R_elder' (rf_ (fm_ (fr_ (fr_ (fr_ (ft_ HO1194 BK1201) 0 (.slice Ao31 t1192.length co31)) 1 (.slice Ao35 t1195.length co35)) 2 (.slice Ao36 t1198.length co36)))) (Kd.R_base ho0) hb); have n7_ := Aside0.mk (Kd.R_mono (Kd.R_told (Kd.R_told (Kd.R_old (rf_ (fm_ (fr_ (fr_ (fr_ (ft_ HO1197 BK1201) 0 (.slice Ao31 t1192.length co31)) 1 (.slice Ao35 t1195.length co35)) 2 (.slice Ao36 t1198.length co36)))) hb) (Kd.R_base ho1)) (Kd.R_base ho2)) (fun _ h_ => h_.1)); have n8_ := Aside0.mk (Kd.R_mono (Kd.R_told (Kd.R_told (Kd.R_old (rf_ (fm_ (fr_ (fr_ (fr_ (ft_ HO1200 BK1201) 0 (.slice Ao31 t1192.length co31)) 1 (.slice Ao35 t1195.length co35)) 2 (.slice Ao36 t1198.length co36)))) hb) (Kd.R_base ho1)) (Kd.R_base ho2)) (fun _ h_ => h_.1)); have n9_ := Aside0.mk (Kd.R_lower (Kd.R_new' (Kd.R_new' (Kd.R_new' ho0 (Kd.R_lt (rf_ (fm_ (fr_ (fr_ (fr_ (ft_ HO1174 BK1201) 0 (.slice Ao31 t1192.length co31)) 1 (.slice Ao35 t1195.length co35)) 2 (.slice Ao36 t1198.length co36)))))) (Kd.R_lt (rf_ (fm_ (fr_ (fr_ (fr_ (ft_ HO1183 BK1201) 0 (.slice Ao31 t1192.length co31)) 1 (.slice Ao35 t1195.length co35)) 2 (.slice Ao36 t1198.length co36)))))) (Kd.R_lt (rf_ (fm_ (fr_ (fr_ (fr_ (ft_ HO1194 BK1201) 0 (.slice Ao31 t1192.length co31)) 1 (.slice Ao35 t1195.length co35)) 2 (.slice Ao36 t1198.length co36)))))) (below_size (bb3_ HB GE1170 GE1191 GE1201))); have n10_ := Aside0.mk (Kd.R_lower (Kd.R_new' (Kd.R_new' (Kd.R_new' (Kd.R_new' (Kd.R_new' (Kd.R_new' ho1 (Kd.R_lt (rf_ (fm_ (fr_ (fr_ (fr_ (ft_ HO1177 BK1201) 0 (.slice Ao31 t1192.length co31)) 1 (.slice Ao35 t1195.length co35)) 2 (.slice Ao36 t1198.length co36)))))) (Kd.R_lt (rf_ (fm_ (fr_ (fr_ (fr_ (ft_ HO1180 BK1201) 0 (.slice Ao31 t1192.length co31)) 1 (.slice Ao35 t1195.length co35)) 2 (.slice Ao36 t1198.length co36)))))) (Kd.R_lt (rf_ (fm_ (fr_ (fr_ (fr_ (ft_ HO1186 BK1201) 0 (.slice Ao31 t1192.length co31)) 1 (.slice Ao35 t1195.length co35)) 2 (.slice Ao36 t1198.length co36)))))) (Kd.R_lt (rf_ (fm_ (fr_ (fr_ (fr_ (ft_ HO1189 BK1201) 0 (.slice Ao31 t1192.length co31)) 1 (.slice Ao35 t1195.length co35)) 2 (.slice Ao36 t1198.length co36)))))) (Kd.R_lt (rf_ (fm_ (fr_ (fr_ (fr_ (ft_ HO1197 BK1201) 0 (.slice Ao31 t1192.length co31)) 1 (.slice Ao35 t1195.length co35)) 2 (.slice Ao36 t1198.length co36)))))) (Kd.R_lt (rf_ (fm_ (fr_ (fr_ (fr_ (ft_ HO1200 BK1201) 0 (.slice Ao31 t1192.length co31)) 1 (.slice Ao35 t1195.length co35)) 2 (.slice Ao36 t1198.length co36)))))) (below_size (bb3_ HB GE1170 GE1191 GE1201))); have n11_ := Aside0.mk (Kd.R_lower (Kd.R_new' (Kd.R_new' (Kd.R_new' (Kd.R_new' (Kd.R_new' (Kd.R_new' ho2 (Kd.R_lt (rf_ (fm_ (fr_ (fr_ (fr_ (ft_ HO1177 BK1201) 0 (.slice Ao31 t1192.length co31)) 1 (.slice Ao35 t1195.length co35)) 2 (.slice Ao36 t1198.length co36)))))) (Kd.R_lt (rf_ (fm_ (fr_ (fr_ (fr_ (ft_ HO1180 BK1201) 0 (.slice Ao31 t1192.length co31)) 1 (.slice Ao35 t1195.length co35)) 2 (.slice Ao36 t1198.length co36)))))) (Kd.R_lt (rf_ (fm_ (fr_ (fr_ (fr_ (ft_ HO1186 BK1201) 0 (.slice Ao31 t1192.length co31)) 1 (.slice Ao35 t1195.length co35)) 2 (.slice Ao36 t1198.length co36)))))) (Kd.R_lt (rf_ (fm_ (fr_ (fr_ (fr_ (ft_ HO1189 BK1201) 0 (.slice Ao31 t1192.length co31)) 1 (.slice Ao35 t1195.length co35)) 2 (.slice Ao36 t1198.length co36)))))) (Kd.R_lt (rf_ (fm_ (fr_ (fr_ (fr_ (ft_ HO1197 BK1201) 0 (.slice Ao31 t1192.length co31)) 1 (.slice Ao35 t1195.length co35)) 2 (.slice Ao36 t1198.length co36)))))) (Kd.R_lt (rf_ (fm_ (fr_ (fr_ (fr_ (ft_ HO1200 BK1201) 0 (.slice Ao31 t1192.length co31)) 1 (.slice Ao35 t1195.length co35)) 2 (.slice Ao36 t1198.length co36)))))) (below_size (bb3_ HB GE1170 GE1191 GE1201))); have n12_ := Aside0.mk (blk_below (g := gb1170) (o := .cells #[.slice A0_0 l0_0.length c0_0, .slice A0_1 l0_1.length c0_1, .slice A0_2 l0_2.length c0_2] 45 (0, 0)) (by (with_reducible repeat (first | apply lN_ | apply lD_ | apply lA_)); refine blk_far ?_ NB1170_1201.out _; (with_reducible repeat (first | apply lN_ | apply lD_ | apply lA_)); refine blk_far ?_ NB1170_1201.out _; (with_reducible repeat (first | apply lN_ | apply lD_ | apply lA_)); refine blk_far ?_ NB1170_1201.out _; (with_reducible repeat (first | apply lN_ | apply lD_ | apply lA_)); exact BK1170.out) hb); have n13_ := Aside0.mk (blk_below (g := gb1191) (o := .cells #[.slice Ao23 t1181.length co23, .slice Ao26 t1184.length co26, .slice Ao27 t1187.length co27] 35 (0, 0)) (by (with_reducible repeat (first | apply lN_ | apply lD_ | apply lA_)); refine blk_far ?_ NB1191_1201.out _; (with_reducible repeat (first | apply lN_ | apply lD_ | apply lA_)); refine blk_far ?_ NB1191_1201.out _; (with_reducible repeat (first | apply lN_ | apply lD_ | apply lA_)); refine blk_far ?_ NB1191_1201.out _; (with_reducible repeat (first | apply lN_ | apply lD_ | apply lA_)); exact BK1191.out) hb); have n14_ := Aside0.mk (blk_below (g := gb1201) (o := .cells #[.slice Ao31 t1192.length co31, .slice Ao35 t1195.length co35, .slice Ao36 t1198.length co36] 35 (0, 0)) (by (with_reducible repeat (first | apply lN_ | apply lD_ | apply lA_)); refine blk_put (cs := #[.slice Ao31 t1192.length co31, .slice Ao35 t1195.length co35, .slice none 0 0]) ?_ 2 _ rfl; (with_reducible repeat (first | apply lN_ | apply lD_ | apply lA_)); refine blk_put (cs := #[.slice Ao31 t1192.length co31, .slice none 0 0, .slice none 0 0]) ?_ 1 _ rfl; (with_reducible repeat (first | apply lN_ | apply lD_ | apply lA_)); refine blk_put (cs := #[.slice none 0 0, .slice none 0 0, .slice none 0 0]) ?_ 0 _ rfl; (with_reducible repeat (first | apply lN_ | apply lD_ | apply lA_)); exact BK1201.out) hb); have n15_ := Aside0.mk (below_step (bb3_ HB GE1170 GE1191 GE1201) hb); clear HO1174; clear HO1177; clear HO1180; clear HO1183; clear HO1186; clear HO1189; clear HO1194; clear HO1197; clear HO1200; clear BK1170; clear BK1191; clear BK1201; clear HB; have HO1174 := n0_; have HO1177 := n1_; have HO1180 := n2_; have HO1183 := n3_; have HO1186 := n4_; have HO1189 := n5_; have HO1194 := n6_; have HO1197 := n7_; have HO1200 := n8_; have HO1204 := n9_; have HO1207 := n10_; have HO1210 := n11_; have BK1170 := n12_; have BK1191 := n13_; have BK1201 := n14_; have HB := n15_; clear n0_ n1_ n2_ n3_ n4_ n5_ n6_ n7_ n8_ n9_ n10_ n11_ n12_ n13_ n14_ n15_; (try clear hb); (try clear hb2); (try clear hk); (try clear hi); (try clear ho0); (try clear ho1); (try clear ho2)) | ((with_reducible refine gate_dst (N := 9) rfl ?_); refine box_event ?hg (N := 9) ?hd (cs := #[.slice none 0 0, .slice none 0 0, .slice none 0 0]) (t := 35) ?hr ?_; (case hd => rfl); (case hg => rfl); (case hr => first | (go_simp; done) | (go_simp; rfl)); intro gb1212 hg w38 hbox hb; have n0_ := Aside0.mk (Kd.R_below (ra_ HO1174) hb); have n1_ := Aside0.mk (Kd.R_below (ra_ HO1177) hb); have n2_ := Aside0.mk (Kd.R_below (ra_ HO1180) hb); have n3_ := Aside0.mk (Kd.R_below (ra_ HO1183) hb); have n4_ := Aside0.mk (Kd.R_below (ra_ HO1186) hb); have n5_ := Aside0.mk (Kd.R_below (ra_ HO1189) hb); have n6_ := Aside0.mk (Kd.R_below (ra_ HO1194) hb); have n7_ := Aside0.mk (Kd.R_below (ra_ HO1197) hb); have n8_ := Aside0.mk (Kd.R_below (ra_ HO1200) hb); have n9_ := Aside0.mk (Kd.R_below (ra_ HO1204) hb); have n10_ := Aside0.mk (Kd.R_below (ra_ HO1207) hb); have n11_ := Aside0.mk (Kd.R_below (ra_ HO1210) hb); have n12_ := Aside0.mk (lb_ BK1170 hb); have n13_ := Aside0.mk (lb_ BK1191 hb); have n14_ := Aside0.mk (lb_ BK1201 hb); have n15_ := Aside0.mk (below_step (bb3_ HB GE1170 GE1191 GE1201) hb); have n16_ := Aside0.mk (hbox); have n17_ := gy_ hg (bb3_ HB GE1170 GE1191 GE1201); have n18_ := gy_ hg (bb3_ HB GE1170 GE1191 GE1201); have n19_ := nl_ hg BK1170; have n20_ := ng_ hg BK1170; have n21_ := nl_ hg BK1191; have n22_ := ng_ hg BK1191; have n23_ := nl_ hg BK1201; have n24_ := ng_ hg BK1201; clear HO1174; clear HO1177; clear HO1180; clear HO1183; clear HO1186; clear HO1189; clear HO1194; clear HO1197; clear HO1200; clear HO1204; clear HO1207; clear HO1210; clear BK1170; clear BK1191; clear BK1201; clear HB; have HO1174 := n0_; have HO1177 := n1_; have HO1180 := n2_; have HO1183 := n3_; have HO1186 := n4_; have HO1189 := n5_; have HO1194 := n6_; have HO1197 := n7_; have HO1200 := n8_; have HO1204 := n9_; have HO1207 := n10_; have HO1210 := n11_; have BK1170 := n12_; have BK1191 := n13_; have BK1201 := n14_; have HB := n15_; have BK1212 := n16_; have GW1212 := n17_; have GE1212 := n18_; have NB1170_1212 := n19_; have NB1212_1170 := n20_; have NB1191_1212 := n21_; have NB1212_1191 := n22_; have NB1201_1212 := n23_; have NB1212_1201 := n24_; clear n0_ n1_ n2_ n3_ n4_ n5_ n6_ n7_ n8_ n9_ n10_ n11_ n12_ n13_ n14_ n15_ n16_ n17_ n18_ n19_ n20_ n21_ n22_ n23_ n24_; clear hb hbox hg; obtain ⟨Ao39, co39, eo39⟩ := Kd.R_slice HO1204.out; subst eo39; have hnb40 := NB1212_1170.out; have hnc40 := NB1170_1212.out; have hnb41 := NB1212_1191.out; have hnc41 := NB1191_1212.out; have hnb42 := NB1212_1201.out; have hnc42 := NB1201_1212.out; have hcz43_0 := cz0_ BK1212; have hcz43_1 := cz1_ BK1212; have hcz43_2 := cz2_ BK1212; have hfz43_0 := fz_ BK1212 0; have hfz43_1 := fz_ BK1212 1; have hfz43_2 := fz_ BK1212 2; obtain ⟨Ao44, co44, eo44⟩ := Kd.R_slice HO1207.out; subst eo44; obtain ⟨Ao45, co45, eo45⟩ := Kd.R_slice HO1210.out; subst eo45))
  (try simp only [Act.put, sA_, sB_, sC_])
  go_cut [44] (fun v44 wc => ∃ (kq : Nat) (x44_11 : Bool), v44 = .bool x44_11 ∧ Aside0 (laws_FnExactDeleteItem.j0 kq a1 t1190 t1211 x44_11 l0_0 l0_1 l0_2 t1181 t1184 t1187 t1192 t1195 t1198 t1202 t1205 t1208 = some r) ∧ Aside0 (kq ≤ k) ∧ Aside0 (Kd.R Kd.string 9 wc w.heap.size (fun k_ => some k_ ≠ ((.slice Ao31 t1192.length co31) : Value).ownBlock ∧ some k_ ≠ ((.slice Ao39 t1202.length co39) : Value).ownBlock) (.slice Ao23 t1181.length co23) t1181) ∧ Aside0 (Kd.R k25 25 wc w.heap.size (fun k_ => some k_ ≠ ((.slice Ao27 t1187.length co27) : Value).ownBlock ∧ some k_ ≠ ((.slice Ao35 t1195.length co35) : Value).ownBlock ∧ some k_ ≠ ((.slice Ao36 t1198.length co36) : Value).ownBlock ∧ some k_ ≠ ((.slice Ao44 t1205.length co44) : Value).ownBlock ∧ some k_ ≠ ((.slice Ao45 t1208.length co45) : Value).ownBlock) (.slice Ao26 t1184.length co26) t1184) ∧ Aside0 (Kd.R k25 25 wc w.heap.size (fun k_ => some k_ ≠ ((.slice Ao26 t1184.length co26) : Value).ownBlock ∧ some k_ ≠ ((.slice Ao35 t1195.length co35) : Value).ownBlock ∧ some k_ ≠ ((.slice Ao36 t1198.length co36) : Value).ownBlock ∧ some k_ ≠ ((.slice Ao44 t1205.length co44) : Value).ownBlock ∧ some k_ ≠ ((.slice Ao45 t1208.length co45) : Value).ownBlock) (.slice Ao27 t1187.length co27) t1187) ∧ Aside0 (Kd.R Kd.string 9 wc w.heap.size (fun k_ => some k_ ≠ ((.slice Ao23 t1181.length co23) : Value).ownBlock ∧ some k_ ≠ ((.slice Ao39 t1202.length co39) : Value).ownBlock) (.slice Ao31 t1192.length co31) t1192) ∧ Aside0 (Kd.R k25 25 wc w.heap.size (fun k_ => some k_ ≠ ((.slice Ao26 t1184.length co26) : Value).ownBlock ∧ some k_ ≠ ((.slice Ao27 t1187.length co27) : Value).ownBlock ∧ some k_ ≠ ((.slice Ao36 t1198.length co36) : Value).ownBlock ∧ some k_ ≠ ((.slice Ao44 t1205.length co44) : Value).ownBlock ∧ some k_ ≠ ((.slice Ao45 t1208.length co45) : Value).ownBlock) (.slice Ao35 t1195.length co35) t1195) ∧ Aside0 (Kd.R k25 25 wc w.heap.size (fun k_ => some k_ ≠ ((.slice Ao26 t1184.length co26) : Value).ownBlock ∧ some k_ ≠ ((.slice Ao27 t1187.length co27) : Value).ownBlock ∧ some k_ ≠ ((.slice Ao35 t1195.length co35) : Value).ownBlock ∧ some k_ ≠ ((.slice Ao44 t1205.length co44) : Value).ownBlock ∧ some k_ ≠ ((.slice Ao45 t1208.length co45) : Value).ownBlock) (.slice Ao36 t1198.length co36) t1198) ∧ Aside0 (Kd.R Kd.string 9 wc w.heap.size (fun k_ => some k_ ≠ ((.slice Ao23 t1181.length co23) : Value).ownBlock ∧ some k_ ≠ ((.slice Ao31 t1192.length co31) : Value).ownBlock) (.slice Ao39 t1202.length co39) t1202) ∧ Aside0 (Kd.R k25 25 wc w.heap.size (fun k_ => some k_ ≠ ((.slice Ao26 t1184.length co26) : Value).ownBlock ∧ some k_ ≠ ((.slice Ao27 t1187.length co27) : Value).ownBlock ∧ some k_ ≠ ((.slice Ao35 t1195.length co35) : Value).ownBlock ∧ some k_ ≠ ((.slice Ao36 t1198.length co36) : Value).ownBlock ∧ some k_ ≠ ((.slice Ao45 t1208.length co45) : Value).ownBlock) (.slice Ao44 t1205.length co44) t1205) ∧ Aside0 (Kd.R k25 25 wc w.heap.size (fun k_ => some k_ ≠ ((.slice Ao26 t1184.length co26) : Value).ownBlock ∧ some k_ ≠ ((.slice Ao27 t1187.length co27) : Value).ownBlock ∧ some k_ ≠ ((.slice Ao35 t1195.length co35) : Value).ownBlock ∧ some k_ ≠ ((.slice Ao36 t1198.length co36) : Value).ownBlock ∧ some k_ ≠ ((.slice Ao44 t1205.length co44) : Value).ownBlock) (.slice Ao45 t1208.length co45) t1208) ∧ Aside0 (wc.heap[gb1170]? = some (.cells #[(.slice A0_0 l0_0.length c0_0), (.slice A0_1 l0_1.length c0_1), (.slice A0_2 l0_2.length c0_2)] 45 (0, 0))) ∧ Aside0 (wc.heap[gb1191]? = some (.cells #[(.slice Ao23 t1181.length co23), (.slice Ao26 t1184.length co26), (.slice Ao27 t1187.length co27)] 35 (0, 0))) ∧ Aside0 (wc.heap[gb1201]? = some (.cells #[(.slice Ao31 t1192.length co31), (.slice Ao35 t1195.length co35), (.slice Ao36 t1198.length co36)] 35 (0, 0))) ∧ Aside0 (wc.heap[gb1212]? = some (.cells #[(.slice Ao39 t1202.length co39), (.slice Ao44 t1205.length co44), (.slice Ao45 t1208.length co45)] 35 (0, 0))) ∧ Aside0 (Below w.heap.size w wc))
  case first =>
   have H := HC12.out
   clear HC12
   replace H := Option.bind_eq_some_iff.mp H
   obtain ⟨t1213, A460, H⟩ := H
   try dsimp only at H
   have A46 := Aside0.mk A460
   clear A460
   by_cases c47 : t1213 = true
   ·subst c47
    have H1 : (laws_FnExactDeleteItem.j0 k a1 t1190 t1211 (t1211 != t1190) l0_0 l0_1 l0_2 t1181 t1184 t1187 t1192 t1195 t1198 t1202 t1205 t1208) = some r := by rw [if_pos rfl] at H; exact H
    clear H
    have H := H1
    clear H1
    have H' := Aside0.mk H
    clear H
    have hnb48 := NB1212_1170.out
    have hnc48 := NB1170_1212.out
    have hnb49 := NB1212_1191.out
    have hnc49 := NB1191_1212.out
    have hnb50 := NB1212_1201.out
    have hnc50 := NB1201_1212.out
    have hcz51_0 := cz0_ BK1212
    have hcz51_1 := cz1_ BK1212
    have hcz51_2 := cz2_ BK1212
    have hfz51_0 := fz_ BK1212 0
    have hfz51_1 := fz_ BK1212 1
    have hfz51_2 := fz_ BK1212 2
    have hnb52 := NB1191_1170.out
    have hnc52 := NB1170_1191.out
    have hnb53 := NB1191_1201.out
    have hnc53 := NB1201_1191.out
    have hcz54_0 := cz0_ BK1191
    have hcz54_1 := cz1_ BK1191
    have hcz54_2 := cz2_ BK1191
    have hfz54_0 := fz_ BK1191 0
    have hfz54_1 := fz_ BK1191 1
    have hfz54_2 := fz_ BK1191 2
    go_wp2_with (first | ((with_reducible refine gate_callee (f := 23) rfl ?_); refine goesL_ (some 38) rfl rfl Try.func23 (by kernel_rfl) rfl #[.agg #[.slice Ao39 t1202.length co39, .slice Ao44 t1205.length co44, .slice Ao45 t1208.length co45], .agg #[.slice Ao23 t1181.length co23, .slice Ao26 t1184.length co26, .slice Ao27 t1187.length co27]] rfl args_ ?_; (with_reducible refine (laws_eqDesk.calls k _ _ t1202 _ _ t1205 _ _ t1208 _ _ t1181 _ _ t1184 _ _ t1187 true _ ?side1 ?side2 ?side3 ?side4 ?side5 ?side6 ?side7 ?side8 ?side9 ?side10 ?side11 ?side12 A46.out).mono ?_); (case side1 => refine (Kd.R_reads' (e := 9) (base := w.heap.size) (ok := fun k_ => (((True ∧ some k_ ≠ (.slice Ao18 t1172.length co18 : Value).ownBlock) ∧ some k_ ≠ (.slice Ao23 t1181.length co23 : Value).ownBlock) ∧ some k_ ≠ (.slice Ao31 t1192.length co31 : Value).ownBlock)) (n := t1202.length) (c := co39) ?_).2.2; exact (rf_ (fm_ (fr_ (fr_ (fr_ (ft_ HO1204 BK1212) 0 (.slice Ao39 t1202.length co39)) 1 (.slice Ao44 t1205.length co44)) 2 (.slice Ao45 t1208.length co45))))); (case side2 => exact (Kd.R_reads' HO1204.out).2.1); (case side3 => refine (Kd.R_reads' (e := 25) (base := w.heap.size) (ok := fun k_ => ((((((some k_ ≠ (.slice Ao45 t1208.length co45 : Value).ownBlock ∧ some k_ ≠ (.slice Ao19 t1175.length co19 : Value).ownBlock) ∧ some k_ ≠ (.slice Ao20 t1178.length co20 : Value).ownBlock) ∧ some k_ ≠ (.slice Ao26 t1184.length co26 : Value).ownBlock) ∧ some k_ ≠ (.slice Ao27 t1187.length co27 : Value).ownBlock) ∧ some k_ ≠ (.slice Ao35 t1195.length co35 : Value).ownBlock) ∧ some k_ ≠ (.slice Ao36 t1198.length co36 : Value).ownBlock)) (n := t1205.length) (c := co44) ?_).2.2; exact (rf_ (fm_ (fr_ (fr_ (fr_ (ft_ HO1207 BK1212) 0 (.slice Ao39 t1202.length co39)) 1 (.slice Ao44 t1205.length co44)) 2 (.slice Ao45 t1208.length co45))))); (case side4 => exact (Kd.R_reads' HO1207.out).2.1); (case side5 => refine (Kd.R_reads' (e := 25) (base := w.heap.size) (ok := fun k_ => ((((((some k_ ≠ (.slice Ao44 t1205.length co44 : Value).ownBlock ∧ some k_ ≠ (.slice Ao19 t1175.length co19 : Value).ownBlock) ∧ some k_ ≠ (.slice Ao20 t1178.length co20 : Value).ownBlock) ∧ some k_ ≠ (.slice Ao26 t1184.length co26 : Value).ownBlock) ∧ some k_ ≠ (.slice Ao27 t1187.length co27 : Value).ownBlock) ∧ some k_ ≠ (.slice Ao35 t1195.length co35 : Value).ownBlock) ∧ some k_ ≠ (.slice Ao36 t1198.length co36 : Value).ownBlock)) (n := t1208.length) (c := co45) ?_).2.2; exact (rf_ (fm_ (fr_ (fr_ (fr_ (ft_ HO1210 BK1212) 0 (.slice Ao39 t1202.length co39)) 1 (.slice Ao44 t1205.length co44)) 2 (.slice Ao45 t1208.length co45))))); (case side6 => exact (Kd.R_reads' HO1210.out).2.1); (case side7 => refine (Kd.R_reads' (e := 9) (base := w.heap.size) (ok := fun k_ => (((True ∧ some k_ ≠ (.slice Ao18 t1172.length co18 : Value).ownBlock) ∧ some k_ ≠ (.slice Ao31 t1192.length co31 : Value).ownBlock) ∧ some k_ ≠ (.slice Ao39 t1202.length co39 : Value).ownBlock)) (n := t1181.length) (c := co23) ?_).2.2; exact (rf_ (fm_ (fr_ (fr_ (fr_ (ft_ HO1183 BK1212) 0 (.slice Ao39 t1202.length co39)) 1 (.slice Ao44 t1205.length co44)) 2 (.slice Ao45 t1208.length co45))))); (case side8 => exact (Kd.R_reads' HO1183.out).2.1); (case side9 => refine (Kd.R_reads' (e := 25) (base := w.heap.size) (ok := fun k_ => ((((((some k_ ≠ (.slice Ao27 t1187.length co27 : Value).ownBlock ∧ some k_ ≠ (.slice Ao19 t1175.length co19 : Value).ownBlock) ∧ some k_ ≠ (.slice Ao20 t1178.length co20 : Value).ownBlock) ∧ some k_ ≠ (.slice Ao35 t1195.length co35 : Value).ownBlock) ∧ some k_ ≠ (.slice Ao36 t1198.length co36 : Value).ownBlock) ∧ some k_ ≠ (.slice Ao44 t1205.length co44 : Value).ownBlock) ∧ some k_ ≠ (.slice Ao45 t1208.length co45 : Value).ownBlock)) (n := t1184.length) (c := co26) ?_).2.2; exact (rf_ (fm_ (fr_ (fr_ (fr_ (ft_ HO1186 BK1212) 0 (.slice Ao39 t1202.length co39)) 1 (.slice Ao44 t1205.length co44)) 2 (.slice Ao45 t1208.length co45))))); (case side10 => exact (Kd.R_reads' HO1186.out).2.1); (case side11 => refine (Kd.R_reads' (e := 25) (base := w.heap.size) (ok := fun k_ => ((((((some k_ ≠ (.slice Ao26 t1184.length co26 : Value).ownBlock ∧ some k_ ≠ (.slice Ao19 t1175.length co19 : Value).ownBlock) ∧ some k_ ≠ (.slice Ao20 t1178.length co20 : Value).ownBlock) ∧ some k_ ≠ (.slice Ao35 t1195.length co35 : Value).ownBlock) ∧ some k_ ≠ (.slice Ao36 t1198.length co36 : Value).ownBlock) ∧ some k_ ≠ (.slice Ao44 t1205.length co44 : Value).ownBlock) ∧ some k_ ≠ (.slice Ao45 t1208.length co45 : Value).ownBlock)) (n := t1187.length) (c := co27) ?_).2.2; exact (rf_ (fm_ (fr_ (fr_ (fr_ (ft_ HO1189 BK1212) 0 (.slice Ao39 t1202.length co39)) 1 (.slice Ao44 t1205.length co44)) 2 (.slice Ao45 t1208.length co45))))); (case side12 => exact (Kd.R_reads' HO1189.out).2.1); rintro e w55 ⟨rfl, hb⟩; refine ⟨_, rfl, ?_⟩; have n0_ := Aside0.mk (Kd.R_below (rf_ (fm_ (fr_ (fr_ (fr_ (ft_ HO1174 BK1212) 0 (.slice Ao39 t1202.length co39)) 1 (.slice Ao44 t1205.length co44)) 2 (.slice Ao45 t1208.length co45)))) hb); have n1_ := Aside0.mk (Kd.R_below (rf_ (fm_ (fr_ (fr_ (fr_ (ft_ HO1177 BK1212) 0 (.slice Ao39 t1202.length co39)) 1 (.slice Ao44 t1205.length co44)) 2 (.slice Ao45 t1208.length co45)))) hb); have n2_ := Aside0.mk (Kd.R_below (rf_ (fm_ (fr_ (fr_ (fr_ (ft_ HO1180 BK1212) 0 (.slice Ao39 t1202.length co39)) 1 (.slice Ao44 t1205.length co44)) 2 (.slice Ao45 t1208.length co45)))) hb); have n3_ := Aside0.mk (Kd.R_below (rf_ (fm_ (fr_ (fr_ (fr_ (ft_ HO1183 BK1212) 0 (.slice Ao39 t1202.length co39)) 1 (.slice Ao44 t1205.length co44)) 2 (.slice Ao45 t1208.length co45)))) hb); have n4_ := Aside0.mk (Kd.R_below (rf_ (fm_ (fr_ (fr_ (fr_ (ft_ HO1186 BK1212) 0 (.slice Ao39 t1202.length co39)) 1 (.slice Ao44 t1205.length co44)) 2 (.slice Ao45 t1208.length co45)))) hb); have n5_ := Aside0.mk (Kd.R_below (rf_ (fm_ (fr_ (fr_ (fr_ (ft_ HO1189 BK1212) 0 (.slice Ao39 t1202.length co39)) 1 (.slice Ao44 t1205.length co44)) 2 (.slice Ao45 t1208.length co45)))) hb); have n6_ := Aside0.mk (Kd.R_below (rf_ (fm_ (fr_ (fr_ (fr_ (ft_ HO1194 BK1212) 0 (.slice Ao39 t1202.length co39)) 1 (.slice Ao44 t1205.length co44)) 2 (.slice Ao45 t1208.length co45)))) hb); have n7_ := Aside0.mk (Kd.R_below (rf_ (fm_ (fr_ (fr_ (fr_ (ft_ HO1197 BK1212) 0 (.slice Ao39 t1202.length co39)) 1 (.slice Ao44 t1205.length co44)) 2 (.slice Ao45 t1208.length co45)))) hb); have n8_ := Aside0.mk (Kd.R_below (rf_ (fm_ (fr_ (fr_ (fr_ (ft_ HO1200 BK1212) 0 (.slice Ao39 t1202.length co39)) 1 (.slice Ao44 t1205.length co44)) 2 (.slice Ao45 t1208.length co45)))) hb); have n9_ := Aside0.mk (Kd.R_below (rf_ (fm_ (fr_ (fr_ (fr_ (ft_ HO1204 BK1212) 0 (.slice Ao39 t1202.length co39)) 1 (.slice Ao44 t1205.length co44)) 2 (.slice Ao45 t1208.length co45)))) hb); have n10_ := Aside0.mk (Kd.R_below (rf_ (fm_ (fr_ (fr_ (fr_ (ft_ HO1207 BK1212) 0 (.slice Ao39 t1202.length co39)) 1 (.slice Ao44 t1205.length co44)) 2 (.slice Ao45 t1208.length co45)))) hb); have n11_ := Aside0.mk (Kd.R_below (rf_ (fm_ (fr_ (fr_ (fr_ (ft_ HO1210 BK1212) 0 (.slice Ao39 t1202.length co39)) 1 (.slice Ao44 t1205.length co44)) 2 (.slice Ao45 t1208.length co45)))) hb); have n12_ := Aside0.mk (blk_below (g := gb1170) (o := .cells #[.slice A0_0 l0_0.length c0_0, .slice A0_1 l0_1.length c0_1, .slice A0_2 l0_2.length c0_2] 45 (0, 0)) (by (with_reducible repeat (first | apply lN_ | apply lD_ | apply lA_)); refine blk_far ?_ NB1170_1212.out _; (with_reducible repeat (first | apply lN_ | apply lD_ | apply lA_)); refine blk_far ?_ NB1170_1212.out _; (with_reducible repeat (first | apply lN_ | apply lD_ | apply lA_)); refine blk_far ?_ NB1170_1212.out _; (with_reducible repeat (first | apply lN_ | apply lD_ | apply lA_)); exact BK1170.out) hb); have n13_ := Aside0.mk (blk_below (g := gb1191) (o := .cells #[.slice Ao23 t1181.length co23, .slice Ao26 t1184.length co26, .slice Ao27 t1187.length co27] 35 (0, 0)) (by (with_reducible repeat (first | apply lN_ | apply lD_ | apply lA_)); refine blk_far ?_ NB1191_1212.out _; (with_reducible repeat (first | apply lN_ | apply lD_ | apply lA_)); refine blk_far ?_ NB1191_1212.out _; (with_reducible repeat (first | apply lN_ | apply lD_ | apply lA_)); refine blk_far ?_ NB1191_1212.out _; (with_reducible repeat (first | apply lN_ | apply lD_ | apply lA_)); exact BK1191.out) hb); have n14_ := Aside0.mk (blk_below (g := gb1201) (o := .cells #[.slice Ao31 t1192.length co31, .slice Ao35 t1195.length co35, .slice Ao36 t1198.length co36] 35 (0, 0)) (by (with_reducible repeat (first | apply lN_ | apply lD_ | apply lA_)); refine blk_far ?_ NB1201_1212.out _; (with_reducible repeat (first | apply lN_ | apply lD_ | apply lA_)); refine blk_far ?_ NB1201_1212.out _; (with_reducible repeat (first | apply lN_ | apply lD_ | apply lA_)); refine blk_far ?_ NB1201_1212.out _; (with_reducible repeat (first | apply lN_ | apply lD_ | apply lA_)); exact BK1201.out) hb); have n15_ := Aside0.mk (blk_below (g := gb1212) (o := .cells #[.slice Ao39 t1202.length co39, .slice Ao44 t1205.length co44, .slice Ao45 t1208.length co45] 35 (0, 0)) (by (with_reducible repeat (first | apply lN_ | apply lD_ | apply lA_)); refine blk_put (cs := #[.slice Ao39 t1202.length co39, .slice Ao44 t1205.length co44, .slice none 0 0]) ?_ 2 _ rfl; (with_reducible repeat (first | apply lN_ | apply lD_ | apply lA_)); refine blk_put (cs := #[.slice Ao39 t1202.length co39, .slice none 0 0, .slice none 0 0]) ?_ 1 _ rfl; (with_reducible repeat (first | apply lN_ | apply lD_ | apply lA_)); refine blk_put (cs := #[.slice none 0 0, .slice none 0 0, .slice none 0 0]) ?_ 0 _ rfl; (with_reducible repeat (first | apply lN_ | apply lD_ | apply lA_)); exact BK1212.out) hb); have n16_ := Aside0.mk (below_step (bb4_ HB GE1170 GE1191 GE1201 GE1212) hb); clear HO1174; clear HO1177; clear HO1180; clear HO1183; clear HO1186; clear HO1189; clear HO1194; clear HO1197; clear HO1200; clear HO1204; clear HO1207; clear HO1210; clear BK1170; clear BK1191; clear BK1201; clear BK1212; clear HB; have HO1174 := n0_; have HO1177 := n1_; have HO1180 := n2_; have HO1183 := n3_; have HO1186 := n4_; have HO1189 := n5_; have HO1194 := n6_; have HO1197 := n7_; have HO1200 := n8_; have HO1204 := n9_; have HO1207 := n10_; have HO1210 := n11_; have BK1170 := n12_; have BK1191 := n13_; have BK1201 := n14_; have BK1212 := n15_; have HB := n16_; clear n0_ n1_ n2_ n3_ n4_ n5_ n6_ n7_ n8_ n9_ n10_ n11_ n12_ n13_ n14_ n15_ n16_; (try clear hb); (try clear hb2); (try clear hk); (try clear hi)))
    go_meet
    case rel => exact ⟨_, ((t1211 != t1190)), (by first | rfl | (simp; done) | (simp [*]; done)), H', ⟨by first | omega | exact Nat.le_refl _⟩, ⟨by (with_reducible repeat (first | apply rA_ | apply rN_ | apply rD_)); exact Kd.R_mono HO1183.out (fun _ hk => ⟨hk.1.2, hk.2⟩)⟩, ⟨by (with_reducible repeat (first | apply rA_ | apply rN_ | apply rD_)); exact Kd.R_mono HO1186.out (fun _ hk => ⟨hk.1.1.1.1.1.1, ⟨hk.1.1.1.2, ⟨hk.1.1.2, ⟨hk.1.2, hk.2⟩⟩⟩⟩)⟩, ⟨by (with_reducible repeat (first | apply rA_ | apply rN_ | apply rD_)); exact Kd.R_mono HO1189.out (fun _ hk => ⟨hk.1.1.1.1.1.1, ⟨hk.1.1.1.2, ⟨hk.1.1.2, ⟨hk.1.2, hk.2⟩⟩⟩⟩)⟩, ⟨by (with_reducible repeat (first | apply rA_ | apply rN_ | apply rD_)); exact Kd.R_mono HO1194.out (fun _ hk => ⟨hk.1.2, hk.2⟩)⟩, ⟨by (with_reducible repeat (first | apply rA_ | apply rN_ | apply rD_)); exact Kd.R_mono HO1197.out (fun _ hk => ⟨hk.1.1.1.2, ⟨hk.1.1.2, ⟨hk.1.1.1.1.1.1, ⟨hk.1.2, hk.2⟩⟩⟩⟩)⟩, ⟨by (with_reducible repeat (first | apply rA_ | apply rN_ | apply rD_)); exact Kd.R_mono HO1200.out (fun _ hk => ⟨hk.1.1.1.2, ⟨hk.1.1.2, ⟨hk.1.1.1.1.1.1, ⟨hk.1.2, hk.2⟩⟩⟩⟩)⟩, ⟨by (with_reducible repeat (first | apply rA_ | apply rN_ | apply rD_)); exact Kd.R_mono HO1204.out (fun _ hk => ⟨hk.1.2, hk.2⟩)⟩, ⟨by (with_reducible repeat (first | apply rA_ | apply rN_ | apply rD_)); exact Kd.R_mono HO1207.out (fun _ hk => ⟨hk.1.1.1.2, ⟨hk.1.1.2, ⟨hk.1.2, ⟨hk.2, hk.1.1.1.1.1.1⟩⟩⟩⟩)⟩, ⟨by (with_reducible repeat (first | apply rA_ | apply rN_ | apply rD_)); exact Kd.R_mono HO1210.out (fun _ hk => ⟨hk.1.1.1.2, ⟨hk.1.1.2, ⟨hk.1.2, ⟨hk.2, hk.1.1.1.1.1.1⟩⟩⟩⟩)⟩, ⟨by (with_reducible repeat (first | apply lN_ | apply lD_ | apply lA_)); exact BK1170.out⟩, ⟨by (with_reducible repeat (first | apply lN_ | apply lD_ | apply lA_)); exact BK1191.out⟩, ⟨by (with_reducible repeat (first | apply lN_ | apply lD_ | apply lA_)); exact BK1201.out⟩, ⟨by (with_reducible repeat (first | apply lN_ | apply lD_ | apply lA_)); exact BK1212.out⟩, ⟨bb4_ HB GE1170 GE1191 GE1201 GE1212⟩⟩
   ·replace c47 := Bool.eq_false_iff.mpr c47
    subst c47
    have H1 : (laws_FnExactDeleteItem.j0 k a1 t1190 t1211 true l0_0 l0_1 l0_2 t1181 t1184 t1187 t1192 t1195 t1198 t1202 t1205 t1208) = some r := by rw [if_neg (show ¬ (false = true) by decide)] at H; exact H
    clear H
    have H := H1
    clear H1
    have H' := Aside0.mk H
    clear H
    have hnb56 := NB1212_1170.out
    have hnc56 := NB1170_1212.out
    have hnb57 := NB1212_1191.out
    have hnc57 := NB1191_1212.out
    have hnb58 := NB1212_1201.out
    have hnc58 := NB1201_1212.out
    have hcz59_0 := cz0_ BK1212
    have hcz59_1 := cz1_ BK1212
    have hcz59_2 := cz2_ BK1212
    have hfz59_0 := fz_ BK1212 0
    have hfz59_1 := fz_ BK1212 1
    have hfz59_2 := fz_ BK1212 2
    have hnb60 := NB1191_1170.out
    have hnc60 := NB1170_1191.out
    have hnb61 := NB1191_1201.out
    have hnc61 := NB1201_1191.out
    have hcz62_0 := cz0_ BK1191
    have hcz62_1 := cz1_ BK1191
    have hcz62_2 := cz2_ BK1191
    have hfz62_0 := fz_ BK1191 0
    have hfz62_1 := fz_ BK1191 1
    have hfz62_2 := fz_ BK1191 2
    go_wp2_with (first | ((with_reducible refine gate_callee (f := 23) rfl ?_); refine goesL_ (some 38) rfl rfl Try.func23 (by kernel_rfl) rfl #[.agg #[.slice Ao39 t1202.length co39, .slice Ao44 t1205.length co44, .slice Ao45 t1208.length co45], .agg #[.slice Ao23 t1181.length co23, .slice Ao26 t1184.length co26, .slice Ao27 t1187.length co27]] rfl args_ ?_; (with_reducible refine (laws_eqDesk.calls k _ _ t1202 _ _ t1205 _ _ t1208 _ _ t1181 _ _ t1184 _ _ t1187 false _ ?side1 ?side2 ?side3 ?side4 ?side5 ?side6 ?side7 ?side8 ?side9 ?side10 ?side11 ?side12 A46.out).mono ?_); (case side1 => refine (Kd.R_reads' (e := 9) (base := w.heap.size) (ok := fun k_ => (((True ∧ some k_ ≠ (.slice Ao18 t1172.length co18 : Value).ownBlock) ∧ some k_ ≠ (.slice Ao23 t1181.length co23 : Value).ownBlock) ∧ some k_ ≠ (.slice Ao31 t1192.length co31 : Value).ownBlock)) (n := t1202.length) (c := co39) ?_).2.2; exact (rf_ (fm_ (fr_ (fr_ (fr_ (ft_ HO1204 BK1212) 0 (.slice Ao39 t1202.length co39)) 1 (.slice Ao44 t1205.length co44)) 2 (.slice Ao45 t1208.length co45))))); (case side2 => exact (Kd.R_reads' HO1204.out).2.1); (case side3 => refine (Kd.R_reads' (e := 25) (base := w.heap.size) (ok := fun k_ => ((((((some k_ ≠ (.slice Ao45 t1208.length co45 : Value).ownBlock ∧ some k_ ≠ (.slice Ao19 t1175.length co19 : Value).ownBlock) ∧ some k_ ≠ (.slice Ao20 t1178.length co20 : Value).ownBlock) ∧ some k_ ≠ (.slice Ao26 t1184.length co26 : Value).ownBlock) ∧ some k_ ≠ (.slice Ao27 t1187.length co27 : Value).ownBlock) ∧ some k_ ≠ (.slice Ao35 t1195.length co35 : Value).ownBlock) ∧ some k_ ≠ (.slice Ao36 t1198.length co36 : Value).ownBlock)) (n := t1205.length) (c := co44) ?_).2.2; exact (rf_ (fm_ (fr_ (fr_ (fr_ (ft_ HO1207 BK1212) 0 (.slice Ao39 t1202.length co39)) 1 (.slice Ao44 t1205.length co44)) 2 (.slice Ao45 t1208.length co45))))); (case side4 => exact (Kd.R_reads' HO1207.out).2.1); (case side5 => refine (Kd.R_reads' (e := 25) (base := w.heap.size) (ok := fun k_ => ((((((some k_ ≠ (.slice Ao44 t1205.length co44 : Value).ownBlock ∧ some k_ ≠ (.slice Ao19 t1175.length co19 : Value).ownBlock) ∧ some k_ ≠ (.slice Ao20 t1178.length co20 : Value).ownBlock) ∧ some k_ ≠ (.slice Ao26 t1184.length co26 : Value).ownBlock) ∧ some k_ ≠ (.slice Ao27 t1187.length co27 : Value).ownBlock) ∧ some k_ ≠ (.slice Ao35 t1195.length co35 : Value).ownBlock) ∧ some k_ ≠ (.slice Ao36 t1198.length co36 : Value).ownBlock)) (n := t1208.length) (c := co45) ?_).2.2; exact (rf_ (fm_ (fr_ (fr_ (fr_ (ft_ HO1210 BK1212) 0 (.slice Ao39 t1202.length co39)) 1 (.slice Ao44 t1205.length co44)) 2 (.slice Ao45 t1208.length co45))))); (case side6 => exact (Kd.R_reads' HO1210.out).2.1); (case side7 => refine (Kd.R_reads' (e := 9) (base := w.heap.size) (ok := fun k_ => (((True ∧ some k_ ≠ (.slice Ao18 t1172.length co18 : Value).ownBlock) ∧ some k_ ≠ (.slice Ao31 t1192.length co31 : Value).ownBlock) ∧ some k_ ≠ (.slice Ao39 t1202.length co39 : Value).ownBlock)) (n := t1181.length) (c := co23) ?_).2.2; exact (rf_ (fm_ (fr_ (fr_ (fr_ (ft_ HO1183 BK1212) 0 (.slice Ao39 t1202.length co39)) 1 (.slice Ao44 t1205.length co44)) 2 (.slice Ao45 t1208.length co45))))); (case side8 => exact (Kd.R_reads' HO1183.out).2.1); (case side9 => refine (Kd.R_reads' (e := 25) (base := w.heap.size) (ok := fun k_ => ((((((some k_ ≠ (.slice Ao27 t1187.length co27 : Value).ownBlock ∧ some k_ ≠ (.slice Ao19 t1175.length co19 : Value).ownBlock) ∧ some k_ ≠ (.slice Ao20 t1178.length co20 : Value).ownBlock) ∧ some k_ ≠ (.slice Ao35 t1195.length co35 : Value).ownBlock) ∧ some k_ ≠ (.slice Ao36 t1198.length co36 : Value).ownBlock) ∧ some k_ ≠ (.slice Ao44 t1205.length co44 : Value).ownBlock) ∧ some k_ ≠ (.slice Ao45 t1208.length co45 : Value).ownBlock)) (n := t1184.length) (c := co26) ?_).2.2; exact (rf_ (fm_ (fr_ (fr_ (fr_ (ft_ HO1186 BK1212) 0 (.slice Ao39 t1202.length co39)) 1 (.slice Ao44 t1205.length co44)) 2 (.slice Ao45 t1208.length co45))))); (case side10 => exact (Kd.R_reads' HO1186.out).2.1); (case side11 => refine (Kd.R_reads' (e := 25) (base := w.heap.size) (ok := fun k_ => ((((((some k_ ≠ (.slice Ao26 t1184.length co26 : Value).ownBlock ∧ some k_ ≠ (.slice Ao19 t1175.length co19 : Value).ownBlock) ∧ some k_ ≠ (.slice Ao20 t1178.length co20 : Value).ownBlock) ∧ some k_ ≠ (.slice Ao35 t1195.length co35 : Value).ownBlock) ∧ some k_ ≠ (.slice Ao36 t1198.length co36 : Value).ownBlock) ∧ some k_ ≠ (.slice Ao44 t1205.length co44 : Value).ownBlock) ∧ some k_ ≠ (.slice Ao45 t1208.length co45 : Value).ownBlock)) (n := t1187.length) (c := co27) ?_).2.2; exact (rf_ (fm_ (fr_ (fr_ (fr_ (ft_ HO1189 BK1212) 0 (.slice Ao39 t1202.length co39)) 1 (.slice Ao44 t1205.length co44)) 2 (.slice Ao45 t1208.length co45))))); (case side12 => exact (Kd.R_reads' HO1189.out).2.1); rintro e w63 ⟨rfl, hb⟩; refine ⟨_, rfl, ?_⟩; have n0_ := Aside0.mk (Kd.R_below (rf_ (fm_ (fr_ (fr_ (fr_ (ft_ HO1174 BK1212) 0 (.slice Ao39 t1202.length co39)) 1 (.slice Ao44 t1205.length co44)) 2 (.slice Ao45 t1208.length co45)))) hb); have n1_ := Aside0.mk (Kd.R_below (rf_ (fm_ (fr_ (fr_ (fr_ (ft_ HO1177 BK1212) 0 (.slice Ao39 t1202.length co39)) 1 (.slice Ao44 t1205.length co44)) 2 (.slice Ao45 t1208.length co45)))) hb); have n2_ := Aside0.mk (Kd.R_below (rf_ (fm_ (fr_ (fr_ (fr_ (ft_ HO1180 BK1212) 0 (.slice Ao39 t1202.length co39)) 1 (.slice Ao44 t1205.length co44)) 2 (.slice Ao45 t1208.length co45)))) hb); have n3_ := Aside0.mk (Kd.R_below (rf_ (fm_ (fr_ (fr_ (fr_ (ft_ HO1183 BK1212) 0 (.slice Ao39 t1202.length co39)) 1 (.slice Ao44 t1205.length co44)) 2 (.slice Ao45 t1208.length co45)))) hb); have n4_ := Aside0.mk (Kd.R_below (rf_ (fm_ (fr_ (fr_ (fr_ (ft_ HO1186 BK1212) 0 (.slice Ao39 t1202.length co39)) 1 (.slice Ao44 t1205.length co44)) 2 (.slice Ao45 t1208.length co45)))) hb); have n5_ := Aside0.mk (Kd.R_below (rf_ (fm_ (fr_ (fr_ (fr_ (ft_ HO1189 BK1212) 0 (.slice Ao39 t1202.length co39)) 1 (.slice Ao44 t1205.length co44)) 2 (.slice Ao45 t1208.length co45)))) hb); have n6_ := Aside0.mk (Kd.R_below (rf_ (fm_ (fr_ (fr_ (fr_ (ft_ HO1194 BK1212) 0 (.slice Ao39 t1202.length co39)) 1 (.slice Ao44 t1205.length co44)) 2 (.slice Ao45 t1208.length co45)))) hb); have n7_ := Aside0.mk (Kd.R_below (rf_ (fm_ (fr_ (fr_ (fr_ (ft_ HO1197 BK1212) 0 (.slice Ao39 t1202.length co39)) 1 (.slice Ao44 t1205.length co44)) 2 (.slice Ao45 t1208.length co45)))) hb); have n8_ := Aside0.mk (Kd.R_below (rf_ (fm_ (fr_ (fr_ (fr_ (ft_ HO1200 BK1212) 0 (.slice Ao39 t1202.length co39)) 1 (.slice Ao44 t1205.length co44)) 2 (.slice Ao45 t1208.length co45)))) hb); have n9_ := Aside0.mk (Kd.R_below (rf_ (fm_ (fr_ (fr_ (fr_ (ft_ HO1204 BK1212) 0 (.slice Ao39 t1202.length co39)) 1 (.slice Ao44 t1205.length co44)) 2 (.slice Ao45 t1208.length co45)))) hb); have n10_ := Aside0.mk (Kd.R_below (rf_ (fm_ (fr_ (fr_ (fr_ (ft_ HO1207 BK1212) 0 (.slice Ao39 t1202.length co39)) 1 (.slice Ao44 t1205.length co44)) 2 (.slice Ao45 t1208.length co45)))) hb); have n11_ := Aside0.mk (Kd.R_below (rf_ (fm_ (fr_ (fr_ (fr_ (ft_ HO1210 BK1212) 0 (.slice Ao39 t1202.length co39)) 1 (.slice Ao44 t1205.length co44)) 2 (.slice Ao45 t1208.length co45)))) hb); have n12_ := Aside0.mk (blk_below (g := gb1170) (o := .cells #[.slice A0_0 l0_0.length c0_0, .slice A0_1 l0_1.length c0_1, .slice A0_2 l0_2.length c0_2] 45 (0, 0)) (by (with_reducible repeat (first | apply lN_ | apply lD_ | apply lA_)); refine blk_far ?_ NB1170_1212.out _; (with_reducible repeat (first | apply lN_ | apply lD_ | apply lA_)); refine blk_far ?_ NB1170_1212.out _; (with_reducible repeat (first | apply lN_ | apply lD_ | apply lA_)); refine blk_far ?_ NB1170_1212.out _; (with_reducible repeat (first | apply lN_ | apply lD_ | apply lA_)); exact BK1170.out) hb); have n13_ := Aside0.mk (blk_below (g := gb1191) (o := .cells #[.slice Ao23 t1181.length co23, .slice Ao26 t1184.length co26, .slice Ao27 t1187.length co27] 35 (0, 0)) (by (with_reducible repeat (first | apply lN_ | apply lD_ | apply lA_)); refine blk_far ?_ NB1191_1212.out _; (with_reducible repeat (first | apply lN_ | apply lD_ | apply lA_)); refine blk_far ?_ NB1191_1212.out _; (with_reducible repeat (first | apply lN_ | apply lD_ | apply lA_)); refine blk_far ?_ NB1191_1212.out _; (with_reducible repeat (first | apply lN_ | apply lD_ | apply lA_)); exact BK1191.out) hb); have n14_ := Aside0.mk (blk_below (g := gb1201) (o := .cells #[.slice Ao31 t1192.length co31, .slice Ao35 t1195.length co35, .slice Ao36 t1198.length co36] 35 (0, 0)) (by (with_reducible repeat (first | apply lN_ | apply lD_ | apply lA_)); refine blk_far ?_ NB1201_1212.out _; (with_reducible repeat (first | apply lN_ | apply lD_ | apply lA_)); refine blk_far ?_ NB1201_1212.out _; (with_reducible repeat (first | apply lN_ | apply lD_ | apply lA_)); refine blk_far ?_ NB1201_1212.out _; (with_reducible repeat (first | apply lN_ | apply lD_ | apply lA_)); exact BK1201.out) hb); have n15_ := Aside0.mk (blk_below (g := gb1212) (o := .cells #[.slice Ao39 t1202.length co39, .slice Ao44 t1205.length co44, .slice Ao45 t1208.length co45] 35 (0, 0)) (by (with_reducible repeat (first | apply lN_ | apply lD_ | apply lA_)); refine blk_put (cs := #[.slice Ao39 t1202.length co39, .slice Ao44 t1205.length co44, .slice none 0 0]) ?_ 2 _ rfl; (with_reducible repeat (first | apply lN_ | apply lD_ | apply lA_)); refine blk_put (cs := #[.slice Ao39 t1202.length co39, .slice none 0 0, .slice none 0 0]) ?_ 1 _ rfl; (with_reducible repeat (first | apply lN_ | apply lD_ | apply lA_)); refine blk_put (cs := #[.slice none 0 0, .slice none 0 0, .slice none 0 0]) ?_ 0 _ rfl; (with_reducible repeat (first | apply lN_ | apply lD_ | apply lA_)); exact BK1212.out) hb); have n16_ := Aside0.mk (below_step (bb4_ HB GE1170 GE1191 GE1201 GE1212) hb); clear HO1174; clear HO1177; clear HO1180; clear HO1183; clear HO1186; clear HO1189; clear HO1194; clear HO1197; clear HO1200; clear HO1204; clear HO1207; clear HO1210; clear BK1170; clear BK1191; clear BK1201; clear BK1212; clear HB; have HO1174 := n0_; have HO1177 := n1_; have HO1180 := n2_; have HO1183 := n3_; have HO1186 := n4_; have HO1189 := n5_; have HO1194 := n6_; have HO1197 := n7_; have HO1200 := n8_; have HO1204 := n9_; have HO1207 := n10_; have HO1210 := n11_; have BK1170 := n12_; have BK1191 := n13_; have BK1201 := n14_; have BK1212 := n15_; have HB := n16_; clear n0_ n1_ n2_ n3_ n4_ n5_ n6_ n7_ n8_ n9_ n10_ n11_ n12_ n13_ n14_ n15_ n16_; (try clear hb); (try clear hb2); (try clear hk); (try clear hi)))
    go_meet
    case rel => exact ⟨_, (true), (by first | rfl | (simp; done) | (simp [*]; done)), H', ⟨by first | omega | exact Nat.le_refl _⟩, ⟨by (with_reducible repeat (first | apply rA_ | apply rN_ | apply rD_)); exact Kd.R_mono HO1183.out (fun _ hk => ⟨hk.1.2, hk.2⟩)⟩, ⟨by (with_reducible repeat (first | apply rA_ | apply rN_ | apply rD_)); exact Kd.R_mono HO1186.out (fun _ hk => ⟨hk.1.1.1.1.1.1, ⟨hk.1.1.1.2, ⟨hk.1.1.2, ⟨hk.1.2, hk.2⟩⟩⟩⟩)⟩, ⟨by (with_reducible repeat (first | apply rA_ | apply rN_ | apply rD_)); exact Kd.R_mono HO1189.out (fun _ hk => ⟨hk.1.1.1.1.1.1, ⟨hk.1.1.1.2, ⟨hk.1.1.2, ⟨hk.1.2, hk.2⟩⟩⟩⟩)⟩, ⟨by (with_reducible repeat (first | apply rA_ | apply rN_ | apply rD_)); exact Kd.R_mono HO1194.out (fun _ hk => ⟨hk.1.2, hk.2⟩)⟩, ⟨by (with_reducible repeat (first | apply rA_ | apply rN_ | apply rD_)); exact Kd.R_mono HO1197.out (fun _ hk => ⟨hk.1.1.1.2, ⟨hk.1.1.2, ⟨hk.1.1.1.1.1.1, ⟨hk.1.2, hk.2⟩⟩⟩⟩)⟩, ⟨by (with_reducible repeat (first | apply rA_ | apply rN_ | apply rD_)); exact Kd.R_mono HO1200.out (fun _ hk => ⟨hk.1.1.1.2, ⟨hk.1.1.2, ⟨hk.1.1.1.1.1.1, ⟨hk.1.2, hk.2⟩⟩⟩⟩)⟩, ⟨by (with_reducible repeat (first | apply rA_ | apply rN_ | apply rD_)); exact Kd.R_mono HO1204.out (fun _ hk => ⟨hk.1.2, hk.2⟩)⟩, ⟨by (with_reducible repeat (first | apply rA_ | apply rN_ | apply rD_)); exact Kd.R_mono HO1207.out (fun _ hk => ⟨hk.1.1.1.2, ⟨hk.1.1.2, ⟨hk.1.2, ⟨hk.2, hk.1.1.1.1.1.1⟩⟩⟩⟩)⟩, ⟨by (with_reducible repeat (first | apply rA_ | apply rN_ | apply rD_)); exact Kd.R_mono HO1210.out (fun _ hk => ⟨hk.1.1.1.2, ⟨hk.1.1.2, ⟨hk.1.2, ⟨hk.2, hk.1.1.1.1.1.1⟩⟩⟩⟩)⟩, ⟨by (with_reducible repeat (first | apply lN_ | apply lD_ | apply lA_)); exact BK1170.out⟩, ⟨by (with_reducible repeat (first | apply lN_ | apply lD_ | apply lA_)); exact BK1191.out⟩, ⟨by (with_reducible repeat (first | apply lN_ | apply lD_ | apply lA_)); exact BK1201.out⟩, ⟨by (with_reducible repeat (first | apply lN_ | apply lD_ | apply lA_)); exact BK1212.out⟩, ⟨bb4_ HB GE1170 GE1191 GE1201 GE1212⟩⟩
  case rest =>
   clear HC12
   try clear c1
   try clear c2
   try clear p2
   try clear c3
   try clear c4
   try clear c4b0
   try clear c5
   try clear c6
   try clear c12
   try clear c23
   try clear c24
   try clear c28
   try clear c30
   try clear c32
   try clear c33
   try clear c40
   try clear c41
   try clear c42
   try clear c45
   try clear c46
   try clear c47
   try clear c48
   try clear c49
   try clear c50
   try clear c52
   try clear c53
   try clear c56
   try clear c57
   try clear c58
   try clear c60
   try clear c61
   try clear hcz14_0
   try clear hcz14_1
   try clear hcz14_2
   try clear hcz16_0
   try clear hcz16_1
   try clear hcz16_2
   try clear hcz25_0
   try clear hcz25_1
   try clear hcz25_2
   try clear hcz28_0
   try clear hcz28_1
   try clear hcz28_2
   try clear hcz34_0
   try clear hcz34_1
   try clear hcz34_2
   try clear hcz43_0
   try clear hcz43_1
   try clear hcz43_2
   try clear hcz51_0
   try clear hcz51_1
   try clear hcz51_2
   try clear hcz54_0
   try clear hcz54_1
   try clear hcz54_2
   try clear hcz59_0
   try clear hcz59_1
   try clear hcz59_2
   try clear hcz62_0
   try clear hcz62_1
   try clear hcz62_2
   try clear hcz6_0
   try clear hcz6_1
   try clear hcz6_2
   try clear hfz14_0
   try clear hfz14_1
   try clear hfz14_2
   try clear hfz16_0
   try clear hfz16_1
   try clear hfz16_2
   try clear hfz25_0
   try clear hfz25_1
   try clear hfz25_2
   try clear hfz28_0
   try clear hfz28_1
   try clear hfz28_2
   try clear hfz34_0
   try clear hfz34_1
   try clear hfz34_2
   try clear hfz43_0
   try clear hfz43_1
   try clear hfz43_2
   try clear hfz51_0
   try clear hfz51_1
   try clear hfz51_2
   try clear hfz54_0
   try clear hfz54_1
   try clear hfz54_2
   try clear hfz59_0
   try clear hfz59_1
   try clear hfz59_2
   try clear hfz62_0
   try clear hfz62_1
   try clear hfz62_2
   try clear hfz6_0
   try clear hfz6_1
   try clear hfz6_2
   obtain ⟨kq, x44_11, rfl, HA, HJ11, HO_1192000, HO_1192001, HO_1192002, HO_1202000, HO_1202001, HO_1202002, HO_1213000, HO_1213001, HO_1213002, BK1170, BK1191, BK1201, BK1212, HB⟩ := hcut
   cases kq with
   | zero => exact absurd HA.out (by simp [laws_FnExactDeleteItem.j0])
   | succ kj11 =>
    have H := HA.out
    clear HA
    simp only [laws_FnExactDeleteItem.j0] at H
    by_cases c64 : x44_11 = true
    ·subst c64
     have H1 : (none) = some r := by rw [if_pos rfl] at H; exact H
     clear H
     have H := H1
     clear H1
     exact absurd H (by simp)
    ·replace c64 := Bool.eq_false_iff.mpr c64
     subst c64
     have H1 : ((laws_toDesk.f kj11 l0_0 l0_1 l0_2).bind fun bt1214 => ((laws_eqDesk.f kj11 t1192 t1195 t1198 bt1214.1 bt1214.2.1 bt1214.2.2).bind fun t1223 => (if t1223 = true then ((laws_markDesk.f kj11 t1192 t1195 t1198 1).bind fun bt1224 => (if bt1224.1 < 0 then (laws_FnExactDeleteItem.j1 kj11 a1 t1190 true l0_0 l0_1 l0_2 t1181 t1184 t1187 t1202 t1205 t1208) else ((laws_eqDesk.f kj11 t1202 t1205 t1208 t1181 t1184 t1187).bind fun t1228 => (if t1228 = true then (laws_FnExactDeleteItem.j1 kj11 a1 t1190 (t1211 != t1190) l0_0 l0_1 l0_2 t1181 t1184 t1187 t1202 t1205 t1208) else (laws_FnExactDeleteItem.j1 kj11 a1 t1190 true l0_0 l0_1 l0_2 t1181 t1184 t1187 t1202 t1205 t1208))))) else (none)))) = some r := by rw [if_neg (show ¬ (false = true) by decide)] at H; exact H
     clear H
     have H := H1
     clear H1
     replace H := Option.bind_eq_some_iff.mp H
     obtain ⟨⟨t1214, t1217, t1220⟩, A650, H⟩ := H
     try dsimp only at H
     have A65 := Aside0.mk A650
     clear A650
     replace H := Option.bind_eq_some_iff.mp H
     obtain ⟨t1223, A660, H⟩ := H
     try dsimp only at H
     have A66 := Aside0.mk A660
     clear A660
     by_cases c67 : t1223 = true
     ·subst c67
      have H1 : ((laws_markDesk.f kj11 t1192 t1195 t1198 1).bind fun bt1224 => (if bt1224.1 < 0 then (laws_FnExactDeleteItem.j1 kj11 a1 t1190 true l0_0 l0_1 l0_2 t1181 t1184 t1187 t1202 t1205 t1208) else ((laws_eqDesk.f kj11 t1202 t1205 t1208 t1181 t1184 t1187).bind fun t1228 => (if t1228 = true then (laws_FnExactDeleteItem.j1 kj11 a1 t1190 (t1211 != t1190) l0_0 l0_1 l0_2 t1181 t1184 t1187 t1202 t1205 t1208) else (laws_FnExactDeleteItem.j1 kj11 a1 t1190 true l0_0 l0_1 l0_2 t1181 t1184 t1187 t1202 t1205 t1208))))) = some r := by rw [if_pos rfl] at H; exact H
      clear H
      have H := H1
      clear H1
      replace H := Option.bind_eq_some_iff.mp H
      obtain ⟨⟨t1224, t1225, t1226, t1227⟩, A680, H⟩ := H
      try dsimp only at H
      have A68 := Aside0.mk A680
      clear A680
      have HC69 := Aside0.mk H
      clear H
      try go_wp2
      have n0_ := Aside0.mk (Kd.R_drew HO_1192000.out)
      have n1_ := Aside0.mk (Kd.R_drew HO_1192001.out)
      have n2_ := Aside0.mk (Kd.R_drew HO_1192002.out)
      have n3_ := Aside0.mk (Kd.R_drew HO_1202000.out)
      have n4_ := Aside0.mk (Kd.R_drew HO_1202001.out)
      have n5_ := Aside0.mk (Kd.R_drew HO_1202002.out)
      have n6_ := Aside0.mk (Kd.R_drew HO_1213000.out)
      have n7_ := Aside0.mk (Kd.R_drew HO_1213001.out)
      have n8_ := Aside0.mk (Kd.R_drew HO_1213002.out)
      have n9_ := Aside0.mk (blk_drew BK1170.out)
      have n10_ := Aside0.mk (blk_drew BK1191.out)
      have n11_ := Aside0.mk (blk_drew BK1201.out)
      have n12_ := Aside0.mk (blk_drew BK1212.out)
      have n13_ := Aside0.mk (below_drew1 HB.out)
      clear HO_1192000
      clear HO_1192001
      clear HO_1192002
      clear HO_1202000
      clear HO_1202001
      clear HO_1202002
      clear HO_1213000
      clear HO_1213001
      clear HO_1213002
      clear BK1170
      clear BK1191
      clear BK1201
      clear BK1212
      clear HB
      have HO_1192000 := n0_
      have HO_1192001 := n1_
      have HO_1192002 := n2_
      have HO_1202000 := n3_
      have HO_1202001 := n4_
      have HO_1202002 := n5_
      have HO_1213000 := n6_
      have HO_1213001 := n7_
      have HO_1213002 := n8_
      have BK1170 := n9_
      have BK1191 := n10_
      have BK1201 := n11_
      have BK1212 := n12_
      have HB := n13_
      clear n0_ n1_ n2_ n3_ n4_ n5_ n6_ n7_ n8_ n9_ n10_ n11_ n12_ n13_
      refine start_ (n := 5) (S := fun w' => w'.cell? ⟨gb1201, 0, none⟩ = some (.slice Ao31 t1192.length co31) ∧ w'.cell? ⟨gb1201, 1, none⟩ = some (.slice Ao35 t1195.length co35) ∧ w'.cell? ⟨gb1201, 2, none⟩ = some (.slice Ao36 t1198.length co36) ∧ w'.cell? ⟨gb1170, 0, none⟩ = some (.slice A0_0 l0_0.length c0_0) ∧ w'.cell? ⟨gb1170, 1, none⟩ = some (.slice A0_1 l0_1.length c0_1) ∧ w'.cell? ⟨gb1170, 2, none⟩ = some (.slice A0_2 l0_2.length c0_2)) (ds := []) #[false, false, false, false, false] (by kernel_rfl) rfl rfl ⟨(blk_cell BK1201.out 0).trans rfl, (blk_cell BK1201.out 1).trans rfl, (blk_cell BK1201.out 2).trans rfl, (blk_cell BK1170.out 0).trans rfl, (blk_cell BK1170.out 1).trans rfl, (blk_cell BK1170.out 2).trans rfl⟩ (fun hHeld => ?_)
      generalize wc.drew = w70 at HO_1192000 HO_1192001 HO_1192002 HO_1202000 HO_1202001 HO_1202002 HO_1213000 HO_1213001 HO_1213002 BK1170 BK1191 BK1201 BK1212 HB hHeld ⊢
      refine take_ (i := 0) (N := some 45) (v := ?_) (a' := ?_) #[true, false, false, false, false] rfl rfl (by kernel_rfl) (fun _ _ _ h => h) (Or.inl ⟨by rfl, ?_⟩) hHeld ?_ ?_
      rotate_left
      ·rintro w' ⟨s0, s1, s2, s3, s4, s5⟩
       go_simp
       with_reducible rfl
      rotate_left
      ·simp only [Act.put, sA_, sB_, sC_, i64_w, i32_w]
       rfl
      refine take_ (i := 1) (N := some 46) (v := ?_) (a' := ?_) #[true, true, false, false, false] rfl rfl (by kernel_rfl) (fun _ _ _ h => h) (Or.inl ⟨by rfl, ?_⟩) hHeld ?_ ?_
      rotate_left
      ·rintro w' ⟨s0, s1, s2, s3, s4, s5⟩
       go_simp
       with_reducible rfl
      rotate_left
      ·simp only [Act.put, sA_, sB_, sC_, i64_w, i32_w]
       rfl
      refine one_ (i := 2) (N := some 47) #[true, true, true, false, false] rfl rfl (by kernel_rfl) (by decide) (fun K hK => ?_)
      refine goes_ Try.func30 (by kernel_rfl) rfl #[.agg #[.slice A0_0 l0_0.length c0_0, .slice A0_1 l0_1.length c0_1, .slice A0_2 l0_2.length c0_2]] (by rfl) rfl rfl args_ ?_
      with_reducible refine (laws_toDesk.calls kj11 _ _ l0_0 _ _ l0_1 _ _ l0_2 t1214 t1217 t1220 _ ?side1 ?side2 ?side3 ?side4 ?side5 ?side6 A65.out).mono ?_
      (case side1 => exact cb_ HR0_0 HB)
      (case side2 => exact HC0_0.out)
      (case side3 => exact cb_ HR0_1 HB)
      (case side4 => exact HC0_1.out)
      (case side5 => exact cb_ HR0_2 HB)
      (case side6 => exact HC0_2.out)
      rintro e w71 ⟨v1215, v1218, v1221, rfl, ho0, ho1, ho2, hb⟩
      refine ⟨_, rfl, ?_⟩
      have n0_ := Aside0.mk (Kd.R_elder' (ra_ HO_1192000) (Kd.R_base ho0) hb)
      have n1_ := Aside0.mk (Kd.R_mono (Kd.R_told (Kd.R_told (Kd.R_old (ra_ HO_1192001) hb) (Kd.R_base ho1)) (Kd.R_base ho2)) (fun _ h_ => h_.1))
      have n2_ := Aside0.mk (Kd.R_mono (Kd.R_told (Kd.R_told (Kd.R_old (ra_ HO_1192002) hb) (Kd.R_base ho1)) (Kd.R_base ho2)) (fun _ h_ => h_.1))
      have n3_ := Aside0.mk (Kd.R_elder' (ra_ HO_1202000) (Kd.R_base ho0) hb)
      have n4_ := Aside0.mk (Kd.R_mono (Kd.R_told (Kd.R_told (Kd.R_old (ra_ HO_1202001) hb) (Kd.R_base ho1)) (Kd.R_base ho2)) (fun _ h_ => h_.1))
      have n5_ := Aside0.mk (Kd.R_mono (Kd.R_told (Kd.R_told (Kd.R_old (ra_ HO_1202002) hb) (Kd.R_base ho1)) (Kd.R_base ho2)) (fun _ h_ => h_.1))
      have n6_ := Aside0.mk (Kd.R_elder' (ra_ HO_1213000) (Kd.R_base ho0) hb)
      have n7_ := Aside0.mk (Kd.R_mono (Kd.R_told (Kd.R_told (Kd.R_old (ra_ HO_1213001) hb) (Kd.R_base ho1)) (Kd.R_base ho2)) (fun _ h_ => h_.1))
      have n8_ := Aside0.mk (Kd.R_mono (Kd.R_told (Kd.R_told (Kd.R_old (ra_ HO_1213002) hb) (Kd.R_base ho1)) (Kd.R_base ho2)) (fun _ h_ => h_.1))
      have n9_ := Aside0.mk (Kd.R_lower (Kd.R_new' (Kd.R_new' (Kd.R_new' ho0 (Kd.R_lt (ra_ HO_1192000))) (Kd.R_lt (ra_ HO_1202000))) (Kd.R_lt (ra_ HO_1213000))) (below_size (bb4_ HB GE1170 GE1191 GE1201 GE1212)))
      have n10_ := Aside0.mk (Kd.R_lower (Kd.R_new' (Kd.R_new' (Kd.R_new' (Kd.R_new' (Kd.R_new' (Kd.R_new' ho1 (Kd.R_lt (ra_ HO_1192001))) (Kd.R_lt (ra_ HO_1192002))) (Kd.R_lt (ra_ HO_1202001))) (Kd.R_lt (ra_ HO_1202002))) (Kd.R_lt (ra_ HO_1213001))) (Kd.R_lt (ra_ HO_1213002))) (below_size (bb4_ HB GE1170 GE1191 GE1201 GE1212)))
      have n11_ := Aside0.mk (Kd.R_lower (Kd.R_new' (Kd.R_new' (Kd.R_new' (Kd.R_new' (Kd.R_new' (Kd.R_new' ho2 (Kd.R_lt (ra_ HO_1192001))) (Kd.R_lt (ra_ HO_1192002))) (Kd.R_lt (ra_ HO_1202001))) (Kd.R_lt (ra_ HO_1202002))) (Kd.R_lt (ra_ HO_1213001))) (Kd.R_lt (ra_ HO_1213002))) (below_size (bb4_ HB GE1170 GE1191 GE1201 GE1212)))
      have n12_ := Aside0.mk (lb_ BK1170 hb)
      have n13_ := Aside0.mk (lb_ BK1191 hb)
      have n14_ := Aside0.mk (lb_ BK1201 hb)
      have n15_ := Aside0.mk (lb_ BK1212 hb)
      have n16_ := Aside0.mk (below_step (bb4_ HB GE1170 GE1191 GE1201 GE1212) hb)
      clear HO_1192000
      clear HO_1192001
      clear HO_1192002
      clear HO_1202000
      clear HO_1202001
      clear HO_1202002
      clear HO_1213000
      clear HO_1213001
      clear HO_1213002
      clear BK1170
      clear BK1191
      clear BK1201
      clear BK1212
      clear HB
      have HO_1192000 := n0_
      have HO_1192001 := n1_
      have HO_1192002 := n2_
      have HO_1202000 := n3_
      have HO_1202001 := n4_
      have HO_1202002 := n5_
      have HO_1213000 := n6_
      have HO_1213001 := n7_
      have HO_1213002 := n8_
      have HO1216 := n9_
      have HO1219 := n10_
      have HO1222 := n11_
      have BK1170 := n12_
      have BK1191 := n13_
      have BK1201 := n14_
      have BK1212 := n15_
      have HB := n16_
      clear n0_ n1_ n2_ n3_ n4_ n5_ n6_ n7_ n8_ n9_ n10_ n11_ n12_ n13_ n14_ n15_ n16_
      (try clear hb)
      (try clear hb2)
      (try clear hk)
      (try clear hi)
      (try clear ho0)
      (try clear ho1)
      (try clear ho2)
      obtain ⟨Ao72, co72, eo72⟩ := Kd.R_slice HO1216.out
      (first | subst eo72 | (injection eo72 with f1_ f2_ f3_; have f4_ := f1_.symm; have f5_ := f3_.symm; clear f1_ f2_ f3_; subst f4_; subst f5_))
      obtain ⟨Ao73, co73, eo73⟩ := Kd.R_slice HO1219.out
      (first | subst eo73 | (injection eo73 with f1_ f2_ f3_; have f4_ := f1_.symm; have f5_ := f3_.symm; clear f1_ f2_ f3_; subst f4_; subst f5_))
      obtain ⟨Ao74, co74, eo74⟩ := Kd.R_slice HO1222.out
      (first | subst eo74 | (injection eo74 with f1_ f2_ f3_; have f4_ := f1_.symm; have f5_ := f3_.symm; clear f1_ f2_ f3_; subst f4_; subst f5_))
      refine hK.out _ _ ⟨(blk_cell BK1201.out 0).trans rfl, (blk_cell BK1201.out 1).trans rfl, (blk_cell BK1201.out 2).trans rfl, (blk_cell BK1170.out 0).trans rfl, (blk_cell BK1170.out 1).trans rfl, (blk_cell BK1170.out 2).trans rfl⟩ (fun hHeld => ?_)
      clear hK K
      refine norm_ (a' := ?_) ?_ ?_
      rotate_left
      ·show Act.put _ (some 47) _ = _
       simp only [Act.put, sA_, sB_, sC_, i64_w, i32_w]
       rfl
      refine one_ (i := 3) (N := some 48) #[true, true, true, true, false] rfl rfl (by kernel_rfl) (by decide) (fun K hK => ?_)
      refine goes_ Try.func23 (by kernel_rfl) rfl #[.agg #[.slice Ao31 t1192.length co31, .slice Ao35 t1195.length co35, .slice Ao36 t1198.length co36], .agg #[.slice Ao72 t1214.length co72, .slice Ao73 t1217.length co73, .slice Ao74 t1220.length co74]] (by rfl) rfl rfl args_ ?_
      with_reducible refine (laws_eqDesk.calls kj11 _ _ t1192 _ _ t1195 _ _ t1198 _ _ t1214 _ _ t1217 _ _ t1220 true _ ?side1 ?side2 ?side3 ?side4 ?side5 ?side6 ?side7 ?side8 ?side9 ?side10 ?side11 ?side12 A66.out).mono ?_
      (case side1 => exact cr_ HO_1202000)
      (case side2 => exact (Kd.R_reads' HO_1202000.out).2.1)
      (case side3 => exact cr_ HO_1202001)
      (case side4 => exact (Kd.R_reads' HO_1202001.out).2.1)
      (case side5 => exact cr_ HO_1202002)
      (case side6 => exact (Kd.R_reads' HO_1202002.out).2.1)
      (case side7 => exact cr_ HO1216)
      (case side8 => exact (Kd.R_reads' HO1216.out).2.1)
      (case side9 => exact cr_ HO1219)
      (case side10 => exact (Kd.R_reads' HO1219.out).2.1)
      (case side11 => exact cr_ HO1222)
      (case side12 => exact (Kd.R_reads' HO1222.out).2.1)
      rintro e w75 ⟨rfl, hb⟩
      refine ⟨_, rfl, ?_⟩
      have n0_ := Aside0.mk (Kd.R_below (ra_ HO_1192000) hb)
      have n1_ := Aside0.mk (Kd.R_below (ra_ HO_1192001) hb)
      have n2_ := Aside0.mk (Kd.R_below (ra_ HO_1192002) hb)
      have n3_ := Aside0.mk (Kd.R_below (ra_ HO_1202000) hb)
      have n4_ := Aside0.mk (Kd.R_below (ra_ HO_1202001) hb)
      have n5_ := Aside0.mk (Kd.R_below (ra_ HO_1202002) hb)
      have n6_ := Aside0.mk (Kd.R_below (ra_ HO_1213000) hb)
      have n7_ := Aside0.mk (Kd.R_below (ra_ HO_1213001) hb)
      have n8_ := Aside0.mk (Kd.R_below (ra_ HO_1213002) hb)
      have n9_ := Aside0.mk (Kd.R_below (ra_ HO1216) hb)
      have n10_ := Aside0.mk (Kd.R_below (ra_ HO1219) hb)
      have n11_ := Aside0.mk (Kd.R_below (ra_ HO1222) hb)
      have n12_ := Aside0.mk (lb_ BK1170 hb)
      have n13_ := Aside0.mk (lb_ BK1191 hb)
      have n14_ := Aside0.mk (lb_ BK1201 hb)
      have n15_ := Aside0.mk (lb_ BK1212 hb)
      have n16_ := Aside0.mk (below_step (bb4_ HB GE1170 GE1191 GE1201 GE1212) hb)
      clear HO_1192000
      clear HO_1192001
      clear HO_1192002
      clear HO_1202000
      clear HO_1202001
      clear HO_1202002
      clear HO_1213000
      clear HO_1213001
      clear HO_1213002
      clear HO1216
      clear HO1219
      clear HO1222
      clear BK1170
      clear BK1191
      clear BK1201
      clear BK1212
      clear HB
      have HO_1192000 := n0_
      have HO_1192001 := n1_
      have HO_1192002 := n2_
      have HO_1202000 := n3_
      have HO_1202001 := n4_
      have HO_1202002 := n5_
      have HO_1213000 := n6_
      have HO_1213001 := n7_
      have HO_1213002 := n8_
      have HO1216 := n9_
      have HO1219 := n10_
      have HO1222 := n11_
      have BK1170 := n12_
      have BK1191 := n13_
      have BK1201 := n14_
      have BK1212 := n15_
      have HB := n16_
      clear n0_ n1_ n2_ n3_ n4_ n5_ n6_ n7_ n8_ n9_ n10_ n11_ n12_ n13_ n14_ n15_ n16_
      (try clear hb)
      (try clear hb2)
      (try clear hk)
      (try clear hi)
      refine hK.out _ _ ⟨(blk_cell BK1201.out 0).trans rfl, (blk_cell BK1201.out 1).trans rfl, (blk_cell BK1201.out 2).trans rfl, (blk_cell BK1170.out 0).trans rfl, (blk_cell BK1170.out 1).trans rfl, (blk_cell BK1170.out 2).trans rfl⟩ (fun hHeld => ?_)
      clear hK K
      refine norm_ (a' := ?_) ?_ ?_
      rotate_left
      ·show Act.put _ (some 48) _ = _
       simp only [Act.put, sA_, sB_, sC_, i64_w, i32_w]
       rfl
      refine pure_ (i := 4) (N := some 49) (v := ?_) (a' := ?_) #[true, true, true, true, true] rfl rfl (by kernel_rfl) (fun _ _ _ h => h) (Or.inl ⟨by rfl, ?_⟩) ?_ ?_
      rotate_left
      ·intro w'
       go_simp
       with_reducible rfl
      rotate_left
      ·simp only [Act.put, sA_, sB_, sC_, i64_w, i32_w]
       rfl
      refine done_ (by kernel_rfl) ?_
      have hnb76 := NB1201_1170.out
      have hnc76 := NB1170_1201.out
      have hnb77 := NB1201_1191.out
      have hnc77 := NB1191_1201.out
      have hnb78 := NB1201_1212.out
      have hnc78 := NB1212_1201.out
      have hcz79_0 := cz0_ BK1201
      have hcz79_1 := cz1_ BK1201
      have hcz79_2 := cz2_ BK1201
      have hfz79_0 := fz_ BK1201 0
      have hfz79_1 := fz_ BK1201 1
      have hfz79_2 := fz_ BK1201 2
      go_upto_region 14 with (first | ((with_reducible refine gate_callee (f := 26) rfl ?_); refine goesL_ (some 52) rfl rfl Try.func26 (by kernel_rfl) rfl #[.agg #[.slice Ao31 t1192.length co31, .slice Ao35 t1195.length co35, .slice Ao36 t1198.length co36], .int .i64 1] rfl args_ ?_; (with_reducible refine (laws_markDesk.calls kj11 (fun k_ => some k_ = (.slice Ao31 t1192.length co31 : Value).ownBlock) (.slice Ao31 t1192.length co31) t1192 (fun k_ => some k_ = (.slice Ao35 t1195.length co35 : Value).ownBlock) (.slice Ao35 t1195.length co35) t1195 (fun k_ => some k_ = (.slice Ao36 t1198.length co36 : Value).ownBlock) (.slice Ao36 t1198.length co36) t1198 1 t1224 t1225 t1226 t1227 w _ ?side1 ?side2 ?side3 ?side4 ?side5 ?side6 A68.out).mono ?_); (case side1 => repeat (first | (with_reducible first | exact HB.out | apply bA_ | apply bN_ | apply bD_ | refine bS_ ?_ GE1170.out | refine bS_ ?_ GE1191.out | refine bS_ ?_ GE1201.out | refine bS_ ?_ GE1212.out) | exact HB.out)); (case side2 => exact Kd.R_tight rfl HO_1202000.out); (case side3 => exact Kd.R_tight rfl HO_1202001.out); (case side4 => exact fun k_ e_ => (HO_1202001.out.1 k_ e_.symm).1.1.2.2.1); (case side5 => exact Kd.R_tight rfl HO_1202002.out); (case side6 => exact fun k_ e_ => (HO_1202002.out.1 k_ e_.symm).1.1.2.2.1); rintro e w80 ⟨rfl, hy0, hy1, hy2, hb, hkp⟩; refine ⟨_, rfl, ?_⟩; have n0_ := Aside0.mk (Kd.R_mono (ok' := fun k_ => some k_ ≠ (.slice Ao31 t1192.length co31 : Value).ownBlock ∧ some k_ ≠ (.slice Ao39 t1202.length co39 : Value).ownBlock ∧ some k_ ≠ (.slice Ao72 t1214.length co72 : Value).ownBlock) (Kd.R_keptB ((Kd.R_apart' (Kd.R_apart' HO_1192000.out (Kd.R_typed HO_1202001.out) (by decide)) (Kd.R_typed HO_1202002.out) (by decide))) hkp (fun k_ hk_ hs_ => Or.elim hs_ (fun e_ => (hk_.1.1.1.1) e_) (fun e_ => Or.elim e_ (fun e_ => (hk_.1.2) e_) (fun e_ => (hk_.2) e_)))) (fun k_ hk_ => ⟨hk_.1.1.1.1.1, hk_.1.1.1.1.2, hk_.1.1.1.2⟩)); have n1_ := Aside0.mk (Kd.R_mono (ok' := fun k_ => some k_ ≠ (.slice Ao27 t1187.length co27 : Value).ownBlock ∧ some k_ ≠ (.slice Ao35 t1195.length co35 : Value).ownBlock ∧ some k_ ≠ (.slice Ao36 t1198.length co36 : Value).ownBlock ∧ some k_ ≠ (.slice Ao44 t1205.length co44 : Value).ownBlock ∧ some k_ ≠ (.slice Ao45 t1208.length co45 : Value).ownBlock ∧ some k_ ≠ (.slice Ao73 t1217.length co73 : Value).ownBlock ∧ some k_ ≠ (.slice Ao74 t1220.length co74 : Value).ownBlock) (Kd.R_keptB ((Kd.R_apart' HO_1192001.out (Kd.R_typed HO_1202000.out) (by decide))) hkp (fun k_ hk_ hs_ => Or.elim hs_ (fun e_ => (hk_.2) e_) (fun e_ => Or.elim e_ (fun e_ => (hk_.1.1.1.2.1) e_) (fun e_ => (hk_.1.1.1.2.2.1) e_)))) (fun k_ hk_ => ⟨hk_.1.1.1.1.1, hk_.1.1.1.1.2.1, hk_.1.1.1.1.2.2.1, hk_.1.1.1.1.2.2.2.1, hk_.1.1.1.1.2.2.2.2, hk_.1.1.1.2, hk_.1.1.2⟩)); have n2_ := Aside0.mk (Kd.R_mono (ok' := fun k_ => some k_ ≠ (.slice Ao26 t1184.length co26 : Value).ownBlock ∧ some k_ ≠ (.slice Ao35 t1195.length co35 : Value).ownBlock ∧ some k_ ≠ (.slice Ao36 t1198.length co36 : Value).ownBlock ∧ some k_ ≠ (.slice Ao44 t1205.length co44 : Value).ownBlock ∧ some k_ ≠ (.slice Ao45 t1208.length co45 : Value).ownBlock ∧ some k_ ≠ (.slice Ao73 t1217.length co73 : Value).ownBlock ∧ some k_ ≠ (.slice Ao74 t1220.length co74 : Value).ownBlock) (Kd.R_keptB ((Kd.R_apart' HO_1192002.out (Kd.R_typed HO_1202000.out) (by decide))) hkp (fun k_ hk_ hs_ => Or.elim hs_ (fun e_ => (hk_.2) e_) (fun e_ => Or.elim e_ (fun e_ => (hk_.1.1.1.2.1) e_) (fun e_ => (hk_.1.1.1.2.2.1) e_)))) (fun k_ hk_ => ⟨hk_.1.1.1.1.1, hk_.1.1.1.1.2.1, hk_.1.1.1.1.2.2.1, hk_.1.1.1.1.2.2.2.1, hk_.1.1.1.1.2.2.2.2, hk_.1.1.1.2, hk_.1.1.2⟩)); have n3_ := Aside0.mk (Kd.R_reok rfl hy0 (fun k_ e_ => HO_1202000.out.1 k_ e_)); have n4_ := Aside0.mk (Kd.R_reok rfl hy1 (fun k_ e_ => HO_1202001.out.1 k_ e_)); have n5_ := Aside0.mk (Kd.R_reok rfl hy2 (fun k_ e_ => HO_1202002.out.1 k_ e_)); have n6_ := Aside0.mk (Kd.R_mono (ok' := fun k_ => some k_ ≠ (.slice Ao23 t1181.length co23 : Value).ownBlock ∧ some k_ ≠ (.slice Ao31 t1192.length co31 : Value).ownBlock ∧ some k_ ≠ (.slice Ao72 t1214.length co72 : Value).ownBlock) (Kd.R_keptB ((Kd.R_apart' (Kd.R_apart' HO_1213000.out (Kd.R_typed HO_1202001.out) (by decide)) (Kd.R_typed HO_1202002.out) (by decide))) hkp (fun k_ hk_ hs_ => Or.elim hs_ (fun e_ => (hk_.1.1.1.2) e_) (fun e_ => Or.elim e_ (fun e_ => (hk_.1.2) e_) (fun e_ => (hk_.2) e_)))) (fun k_ hk_ => ⟨hk_.1.1.1.1.1, hk_.1.1.1.1.2, hk_.1.1.1.2⟩)); have n7_ := Aside0.mk (Kd.R_mono (ok' := fun k_ => some k_ ≠ (.slice Ao26 t1184.length co26 : Value).ownBlock ∧ some k_ ≠ (.slice Ao27 t1187.length co27 : Value).ownBlock ∧ some k_ ≠ (.slice Ao35 t1195.length co35 : Value).ownBlock ∧ some k_ ≠ (.slice Ao36 t1198.length co36 : Value).ownBlock ∧ some k_ ≠ (.slice Ao45 t1208.length co45 : Value).ownBlock ∧ some k_ ≠ (.slice Ao73 t1217.length co73 : Value).ownBlock ∧ some k_ ≠ (.slice Ao74 t1220.length co74 : Value).ownBlock) (Kd.R_keptB ((Kd.R_apart' HO_1213001.out (Kd.R_typed HO_1202000.out) (by decide))) hkp (fun k_ hk_ hs_ => Or.elim hs_ (fun e_ => (hk_.2) e_) (fun e_ => Or.elim e_ (fun e_ => (hk_.1.1.1.2.2.1) e_) (fun e_ => (hk_.1.1.1.2.2.2.1) e_)))) (fun k_ hk_ => ⟨hk_.1.1.1.1.1, hk_.1.1.1.1.2.1, hk_.1.1.1.1.2.2.1, hk_.1.1.1.1.2.2.2.1, hk_.1.1.1.1.2.2.2.2, hk_.1.1.1.2, hk_.1.1.2⟩)); have n8_ := Aside0.mk (Kd.R_mono (ok' := fun k_ => some k_ ≠ (.slice Ao26 t1184.length co26 : Value).ownBlock ∧ some k_ ≠ (.slice Ao27 t1187.length co27 : Value).ownBlock ∧ some k_ ≠ (.slice Ao35 t1195.length co35 : Value).ownBlock ∧ some k_ ≠ (.slice Ao36 t1198.length co36 : Value).ownBlock ∧ some k_ ≠ (.slice Ao44 t1205.length co44 : Value).ownBlock ∧ some k_ ≠ (.slice Ao73 t1217.length co73 : Value).ownBlock ∧ some k_ ≠ (.slice Ao74 t1220.length co74 : Value).ownBlock) (Kd.R_keptB ((Kd.R_apart' HO_1213002.out (Kd.R_typed HO_1202000.out) (by decide))) hkp (fun k_ hk_ hs_ => Or.elim hs_ (fun e_ => (hk_.2) e_) (fun e_ => Or.elim e_ (fun e_ => (hk_.1.1.1.2.2.1) e_) (fun e_ => (hk_.1.1.1.2.2.2.1) e_)))) (fun k_ hk_ => ⟨hk_.1.1.1.1.1, hk_.1.1.1.1.2.1, hk_.1.1.1.1.2.2.1, hk_.1.1.1.1.2.2.2.1, hk_.1.1.1.1.2.2.2.2, hk_.1.1.1.2, hk_.1.1.2⟩)); have n9_ := Aside0.mk (blk_kept (la_ BK1170) hkp (fun hs_ => Or.elim hs_ (fun e_ => (fun e_ => (Kd.R_ne HO_1202000.out BK1170.out (by decide)) e_) e_) (fun e_ => Or.elim e_ (fun e_ => (fun e_ => (Kd.R_ne HO_1202001.out BK1170.out (by decide)) e_) e_) (fun e_ => (fun e_ => (Kd.R_ne HO_1202002.out BK1170.out (by decide)) e_) e_)))); have n10_ := Aside0.mk (blk_kept (la_ BK1191) hkp (fun hs_ => Or.elim hs_ (fun e_ => (fun e_ => (Kd.R_ne HO_1202000.out BK1191.out (by decide)) e_) e_) (fun e_ => Or.elim e_ (fun e_ => (fun e_ => (Kd.R_ne HO_1202001.out BK1191.out (by decide)) e_) e_) (fun e_ => (fun e_ => (Kd.R_ne HO_1202002.out BK1191.out (by decide)) e_) e_)))); have n11_ := Aside0.mk (blk_kept (la_ BK1201) hkp (fun hs_ => Or.elim hs_ (fun e_ => (fun e_ => (Kd.R_ne HO_1202000.out BK1201.out (by decide)) e_) e_) (fun e_ => Or.elim e_ (fun e_ => (fun e_ => (Kd.R_ne HO_1202001.out BK1201.out (by decide)) e_) e_) (fun e_ => (fun e_ => (Kd.R_ne HO_1202002.out BK1201.out (by decide)) e_) e_)))); have n12_ := Aside0.mk (blk_kept (la_ BK1212) hkp (fun hs_ => Or.elim hs_ (fun e_ => (fun e_ => (Kd.R_ne HO_1202000.out BK1212.out (by decide)) e_) e_) (fun e_ => Or.elim e_ (fun e_ => (fun e_ => (Kd.R_ne HO_1202001.out BK1212.out (by decide)) e_) e_) (fun e_ => (fun e_ => (Kd.R_ne HO_1202002.out BK1212.out (by decide)) e_) e_)))); have n13_ := Aside0.mk (Kd.R_mono (ok' := fun k_ => some k_ ≠ (.slice Ao23 t1181.length co23 : Value).ownBlock ∧ some k_ ≠ (.slice Ao31 t1192.length co31 : Value).ownBlock ∧ some k_ ≠ (.slice Ao39 t1202.length co39 : Value).ownBlock) (Kd.R_keptB ((Kd.R_apart' (Kd.R_apart' HO1216.out (Kd.R_typed HO_1202001.out) (by decide)) (Kd.R_typed HO_1202002.out) (by decide))) hkp (fun k_ hk_ hs_ => Or.elim hs_ (fun e_ => (hk_.1.1.1.2) e_) (fun e_ => Or.elim e_ (fun e_ => (hk_.1.2) e_) (fun e_ => (hk_.2) e_)))) (fun k_ hk_ => ⟨hk_.1.1.1.1.1.2, hk_.1.1.1.1.2, hk_.1.1.1.2⟩)); have n14_ := Aside0.mk (Kd.R_mono (ok' := fun k_ => some k_ ≠ (.slice Ao26 t1184.length co26 : Value).ownBlock ∧ some k_ ≠ (.slice Ao27 t1187.length co27 : Value).ownBlock ∧ some k_ ≠ (.slice Ao35 t1195.length co35 : Value).ownBlock ∧ some k_ ≠ (.slice Ao36 t1198.length co36 : Value).ownBlock ∧ some k_ ≠ (.slice Ao44 t1205.length co44 : Value).ownBlock ∧ some k_ ≠ (.slice Ao45 t1208.length co45 : Value).ownBlock ∧ some k_ ≠ (.slice Ao74 t1220.length co74 : Value).ownBlock) (Kd.R_keptB ((Kd.R_apart' HO1219.out (Kd.R_typed HO_1202000.out) (by decide))) hkp (fun k_ hk_ hs_ => Or.elim hs_ (fun e_ => (hk_.2) e_) (fun e_ => Or.elim e_ (fun e_ => (hk_.1.1.1.1.2) e_) (fun e_ => (hk_.1.1.1.2) e_)))) (fun k_ hk_ => ⟨hk_.1.1.1.1.1.1.1.2, hk_.1.1.1.1.1.1.2, hk_.1.1.1.1.1.2, hk_.1.1.1.1.2, hk_.1.1.1.2, hk_.1.1.2, hk_.1.1.1.1.1.1.1.1⟩)); have n15_ := Aside0.mk (Kd.R_mono (ok' := fun k_ => some k_ ≠ (.slice Ao26 t1184.length co26 : Value).ownBlock ∧ some k_ ≠ (.slice Ao27 t1187.length co27 : Value).ownBlock ∧ some k_ ≠ (.slice Ao35 t1195.length co35 : Value).ownBlock ∧ some k_ ≠ (.slice Ao36 t1198.length co36 : Value).ownBlock ∧ some k_ ≠ (.slice Ao44 t1205.length co44 : Value).ownBlock ∧ some k_ ≠ (.slice Ao45 t1208.length co45 : Value).ownBlock ∧ some k_ ≠ (.slice Ao73 t1217.length co73 : Value).ownBlock) (Kd.R_keptB ((Kd.R_apart' HO1222.out (Kd.R_typed HO_1202000.out) (by decide))) hkp (fun k_ hk_ hs_ => Or.elim hs_ (fun e_ => (hk_.2) e_) (fun e_ => Or.elim e_ (fun e_ => (hk_.1.1.1.1.2) e_) (fun e_ => (hk_.1.1.1.2) e_)))) (fun k_ hk_ => ⟨hk_.1.1.1.1.1.1.1.2, hk_.1.1.1.1.1.1.2, hk_.1.1.1.1.1.2, hk_.1.1.1.1.2, hk_.1.1.1.2, hk_.1.1.2, hk_.1.1.1.1.1.1.1.1⟩)); have n16_ := Aside0.mk (hb); clear HO_1192000; clear HO_1192001; clear HO_1192002; clear HO_1202000; clear HO_1202001; clear HO_1202002; clear HO_1213000; clear HO_1213001; clear HO_1213002; clear BK1170; clear BK1191; clear BK1201; clear BK1212; clear HO1216; clear HO1219; clear HO1222; clear HB; have HO_1192000 := n0_; have HO_1192001 := n1_; have HO_1192002 := n2_; have HO_1202000 := n3_; have HO_1202001 := n4_; have HO_1202002 := n5_; have HO_1213000 := n6_; have HO_1213001 := n7_; have HO_1213002 := n8_; have BK1170 := n9_; have BK1191 := n10_; have BK1201 := n11_; have BK1212 := n12_; have HO1216 := n13_; have HO1219 := n14_; have HO1222 := n15_; have HB := n16_; clear n0_ n1_ n2_ n3_ n4_ n5_ n6_ n7_ n8_ n9_ n10_ n11_ n12_ n13_ n14_ n15_ n16_; (try clear hb); (try clear hkp); (try clear hy0); (try clear hy1); (try clear hy2)))
      (try simp only [Act.put, sA_, sB_, sC_])
      go_cut [65] (fun v65 wc => ∃ (kq : Nat) (x65_68 : Bool), v65 = .bool x65_68 ∧ Aside0 (laws_FnExactDeleteItem.j1 kq a1 t1190 x65_68 l0_0 l0_1 l0_2 t1181 t1184 t1187 t1202 t1205 t1208 = some r) ∧ Aside0 (kq ≤ kj11) ∧ Aside0 (Kd.R Kd.string 9 wc w.heap.size (fun k_ => some k_ ≠ ((.slice Ao31 t1192.length co31) : Value).ownBlock ∧ some k_ ≠ ((.slice Ao39 t1202.length co39) : Value).ownBlock) (.slice Ao23 t1181.length co23) t1181) ∧ Aside0 (Kd.R k25 25 wc w.heap.size (fun k_ => some k_ ≠ ((.slice Ao27 t1187.length co27) : Value).ownBlock ∧ some k_ ≠ ((.slice Ao35 t1195.length co35) : Value).ownBlock ∧ some k_ ≠ ((.slice Ao36 t1198.length co36) : Value).ownBlock ∧ some k_ ≠ ((.slice Ao44 t1205.length co44) : Value).ownBlock ∧ some k_ ≠ ((.slice Ao45 t1208.length co45) : Value).ownBlock) (.slice Ao26 t1184.length co26) t1184) ∧ Aside0 (Kd.R k25 25 wc w.heap.size (fun k_ => some k_ ≠ ((.slice Ao26 t1184.length co26) : Value).ownBlock ∧ some k_ ≠ ((.slice Ao35 t1195.length co35) : Value).ownBlock ∧ some k_ ≠ ((.slice Ao36 t1198.length co36) : Value).ownBlock ∧ some k_ ≠ ((.slice Ao44 t1205.length co44) : Value).ownBlock ∧ some k_ ≠ ((.slice Ao45 t1208.length co45) : Value).ownBlock) (.slice Ao27 t1187.length co27) t1187) ∧ Aside0 (Kd.R Kd.string 9 wc w.heap.size (fun k_ => some k_ ≠ ((.slice Ao23 t1181.length co23) : Value).ownBlock ∧ some k_ ≠ ((.slice Ao39 t1202.length co39) : Value).ownBlock) (.slice Ao31 t1192.length co31) t1225) ∧ Aside0 (Kd.R k25 25 wc w.heap.size (fun k_ => some k_ ≠ ((.slice Ao26 t1184.length co26) : Value).ownBlock ∧ some k_ ≠ ((.slice Ao27 t1187.length co27) : Value).ownBlock ∧ some k_ ≠ ((.slice Ao36 t1198.length co36) : Value).ownBlock ∧ some k_ ≠ ((.slice Ao44 t1205.length co44) : Value).ownBlock ∧ some k_ ≠ ((.slice Ao45 t1208.length co45) : Value).ownBlock) (.slice Ao35 t1195.length co35) t1226) ∧ Aside0 (Kd.R k25 25 wc w.heap.size (fun k_ => some k_ ≠ ((.slice Ao26 t1184.length co26) : Value).ownBlock ∧ some k_ ≠ ((.slice Ao27 t1187.length co27) : Value).ownBlock ∧ some k_ ≠ ((.slice Ao35 t1195.length co35) : Value).ownBlock ∧ some k_ ≠ ((.slice Ao44 t1205.length co44) : Value).ownBlock ∧ some k_ ≠ ((.slice Ao45 t1208.length co45) : Value).ownBlock) (.slice Ao36 t1198.length co36) t1227) ∧ Aside0 (Kd.R Kd.string 9 wc w.heap.size (fun k_ => some k_ ≠ ((.slice Ao23 t1181.length co23) : Value).ownBlock ∧ some k_ ≠ ((.slice Ao31 t1192.length co31) : Value).ownBlock) (.slice Ao39 t1202.length co39) t1202) ∧ Aside0 (Kd.R k25 25 wc w.heap.size (fun k_ => some k_ ≠ ((.slice Ao26 t1184.length co26) : Value).ownBlock ∧ some k_ ≠ ((.slice Ao27 t1187.length co27) : Value).ownBlock ∧ some k_ ≠ ((.slice Ao35 t1195.length co35) : Value).ownBlock ∧ some k_ ≠ ((.slice Ao36 t1198.length co36) : Value).ownBlock ∧ some k_ ≠ ((.slice Ao45 t1208.length co45) : Value).ownBlock) (.slice Ao44 t1205.length co44) t1205) ∧ Aside0 (Kd.R k25 25 wc w.heap.size (fun k_ => some k_ ≠ ((.slice Ao26 t1184.length co26) : Value).ownBlock ∧ some k_ ≠ ((.slice Ao27 t1187.length co27) : Value).ownBlock ∧ some k_ ≠ ((.slice Ao35 t1195.length co35) : Value).ownBlock ∧ some k_ ≠ ((.slice Ao36 t1198.length co36) : Value).ownBlock ∧ some k_ ≠ ((.slice Ao44 t1205.length co44) : Value).ownBlock) (.slice Ao45 t1208.length co45) t1208) ∧ Aside0 (wc.heap[gb1170]? = some (.cells #[(.slice A0_0 l0_0.length c0_0), (.slice A0_1 l0_1.length c0_1), (.slice A0_2 l0_2.length c0_2)] 45 (0, 0))) ∧ Aside0 (wc.heap[gb1191]? = some (.cells #[(.slice Ao23 t1181.length co23), (.slice Ao26 t1184.length co26), (.slice Ao27 t1187.length co27)] 35 (0, 0))) ∧ Aside0 (wc.heap[gb1201]? = some (.cells #[(.slice Ao31 t1192.length co31), (.slice Ao35 t1195.length co35), (.slice Ao36 t1198.length co36)] 35 (0, 0))) ∧ Aside0 (wc.heap[gb1212]? = some (.cells #[(.slice Ao39 t1202.length co39), (.slice Ao44 t1205.length co44), (.slice Ao45 t1208.length co45)] 35 (0, 0))) ∧ Aside0 (Below w.heap.size w wc))
      case first =>
       have H := HC69.out
       clear HC69
       by_cases c81 : t1224 < 0
       ·rw [if_pos c81] at H
        have c81b0 : decide (t1224 < 0) = true := decide_eq_true c81
        clear c81
        (first | rw [c81b0] | (simp only [i64_w, i32_w]; rw [c81b0]) | skip)
        have H' := Aside0.mk H
        clear H
        go_wp2
        go_meet
        case rel => exact ⟨_, (true), (by first | rfl | (simp; done) | (simp [*]; done)), H', ⟨by have := HJ11.out; first | omega | exact Nat.le_refl _⟩, ⟨by (with_reducible repeat (first | apply rA_ | apply rN_ | apply rD_)); exact Kd.R_mono HO_1192000.out (fun _ hk => ⟨hk.1, hk.2.1⟩)⟩, ⟨by (with_reducible repeat (first | apply rA_ | apply rN_ | apply rD_)); exact Kd.R_mono HO_1192001.out (fun _ hk => ⟨hk.1, ⟨hk.2.1, ⟨hk.2.2.1, ⟨hk.2.2.2.1, hk.2.2.2.2.1⟩⟩⟩⟩)⟩, ⟨by (with_reducible repeat (first | apply rA_ | apply rN_ | apply rD_)); exact Kd.R_mono HO_1192002.out (fun _ hk => ⟨hk.1, ⟨hk.2.1, ⟨hk.2.2.1, ⟨hk.2.2.2.1, hk.2.2.2.2.1⟩⟩⟩⟩)⟩, ⟨by (with_reducible repeat (first | apply rA_ | apply rN_ | apply rD_)); exact Kd.R_mono HO_1202000.out (fun _ hk => ⟨hk.1.1, hk.1.2⟩)⟩, ⟨by (with_reducible repeat (first | apply rA_ | apply rN_ | apply rD_)); exact Kd.R_mono HO_1202001.out (fun _ hk => ⟨hk.1.1.1, ⟨hk.1.1.2.1, ⟨hk.1.1.2.2.1, ⟨hk.1.1.2.2.2.1, hk.1.1.2.2.2.2⟩⟩⟩⟩)⟩, ⟨by (with_reducible repeat (first | apply rA_ | apply rN_ | apply rD_)); exact Kd.R_mono HO_1202002.out (fun _ hk => ⟨hk.1.1.1, ⟨hk.1.1.2.1, ⟨hk.1.1.2.2.1, ⟨hk.1.1.2.2.2.1, hk.1.1.2.2.2.2⟩⟩⟩⟩)⟩, ⟨by (with_reducible repeat (first | apply rA_ | apply rN_ | apply rD_)); exact Kd.R_mono HO_1213000.out (fun _ hk => ⟨hk.1, hk.2.1⟩)⟩, ⟨by (with_reducible repeat (first | apply rA_ | apply rN_ | apply rD_)); exact Kd.R_mono HO_1213001.out (fun _ hk => ⟨hk.1, ⟨hk.2.1, ⟨hk.2.2.1, ⟨hk.2.2.2.1, hk.2.2.2.2.1⟩⟩⟩⟩)⟩, ⟨by (with_reducible repeat (first | apply rA_ | apply rN_ | apply rD_)); exact Kd.R_mono HO_1213002.out (fun _ hk => ⟨hk.1, ⟨hk.2.1, ⟨hk.2.2.1, ⟨hk.2.2.2.1, hk.2.2.2.2.1⟩⟩⟩⟩)⟩, ⟨by (with_reducible repeat (first | apply lN_ | apply lD_ | apply lA_)); exact BK1170.out⟩, ⟨by (with_reducible repeat (first | apply lN_ | apply lD_ | apply lA_)); exact BK1191.out⟩, ⟨by (with_reducible repeat (first | apply lN_ | apply lD_ | apply lA_)); exact BK1201.out⟩, ⟨by (with_reducible repeat (first | apply lN_ | apply lD_ | apply lA_)); exact BK1212.out⟩, ⟨bb4_ HB GE1170 GE1191 GE1201 GE1212⟩⟩
       ·rw [if_neg c81] at H
        have c81b0 : decide (t1224 < 0) = false := decide_eq_false c81
        clear c81
        (first | rw [c81b0] | (simp only [i64_w, i32_w]; rw [c81b0]) | skip)
        replace H := Option.bind_eq_some_iff.mp H
        obtain ⟨t1228, A820, H⟩ := H
        try dsimp only at H
        have A82 := Aside0.mk A820
        clear A820
        by_cases c83 : t1228 = true
        ·subst c83
         have H1 : (laws_FnExactDeleteItem.j1 kj11 a1 t1190 (t1211 != t1190) l0_0 l0_1 l0_2 t1181 t1184 t1187 t1202 t1205 t1208) = some r := by rw [if_pos rfl] at H; exact H
         clear H
         have H := H1
         clear H1
         have H' := Aside0.mk H
         clear H
         have hnb84 := NB1212_1170.out
         have hnc84 := NB1170_1212.out
         have hnb85 := NB1212_1191.out
         have hnc85 := NB1191_1212.out
         have hnb86 := NB1212_1201.out
         have hnc86 := NB1201_1212.out
         have hcz87_0 := cz0_ BK1212
         have hcz87_1 := cz1_ BK1212
         have hcz87_2 := cz2_ BK1212
         have hfz87_0 := fz_ BK1212 0
         have hfz87_1 := fz_ BK1212 1
         have hfz87_2 := fz_ BK1212 2
         have hnb88 := NB1191_1170.out
         have hnc88 := NB1170_1191.out
         have hnb89 := NB1191_1201.out
         have hnc89 := NB1201_1191.out
         have hcz90_0 := cz0_ BK1191
         have hcz90_1 := cz1_ BK1191
         have hcz90_2 := cz2_ BK1191
         have hfz90_0 := fz_ BK1191 0
         have hfz90_1 := fz_ BK1191 1
         have hfz90_2 := fz_ BK1191 2
         go_wp2_with (first | (go_at_call 23; (with_reducible refine (laws_eqDesk.calls kj11 _ _ t1202 _ _ t1205 _ _ t1208 _ _ t1181 _ _ t1184 _ _ t1187 true _ ?side1 ?side2 ?side3 ?side4 ?side5 ?side6 ?side7 ?side8 ?side9 ?side10 ?side11 ?side12 A82.out).mono ?_); (case side1 => exact cr_ HO_1213000); (case side2 => exact (Kd.R_reads' HO_1213000.out).2.1); (case side3 => exact cr_ HO_1213001); (case side4 => exact (Kd.R_reads' HO_1213001.out).2.1); (case side5 => exact cr_ HO_1213002); (case side6 => exact (Kd.R_reads' HO_1213002.out).2.1); (case side7 => exact cr_ HO_1192000); (case side8 => exact (Kd.R_reads' HO_1192000.out).2.1); (case side9 => exact cr_ HO_1192001); (case side10 => exact (Kd.R_reads' HO_1192001.out).2.1); (case side11 => exact cr_ HO_1192002); (case side12 => exact (Kd.R_reads' HO_1192002.out).2.1); rintro e w91 ⟨rfl, hb⟩; have n0_ := Aside0.mk (Kd.R_below (ra_ HO_1192000) hb); have n1_ := Aside0.mk (Kd.R_below (ra_ HO_1192001) hb); have n2_ := Aside0.mk (Kd.R_below (ra_ HO_1192002) hb); have n3_ := Aside0.mk (Kd.R_below (ra_ HO_1202000) hb); have n4_ := Aside0.mk (Kd.R_below (ra_ HO_1202001) hb); have n5_ := Aside0.mk (Kd.R_below (ra_ HO_1202002) hb); have n6_ := Aside0.mk (Kd.R_below (ra_ HO_1213000) hb); have n7_ := Aside0.mk (Kd.R_below (ra_ HO_1213001) hb); have n8_ := Aside0.mk (Kd.R_below (ra_ HO_1213002) hb); have n9_ := Aside0.mk (Kd.R_below (ra_ HO1216) hb); have n10_ := Aside0.mk (Kd.R_below (ra_ HO1219) hb); have n11_ := Aside0.mk (Kd.R_below (ra_ HO1222) hb); have n12_ := Aside0.mk (lb_ BK1170 hb); have n13_ := Aside0.mk (lb_ BK1191 hb); have n14_ := Aside0.mk (lb_ BK1201 hb); have n15_ := Aside0.mk (lb_ BK1212 hb); have n16_ := Aside0.mk (below_step (bb4_ HB GE1170 GE1191 GE1201 GE1212) hb); clear HO_1192000; clear HO_1192001; clear HO_1192002; clear HO_1202000; clear HO_1202001; clear HO_1202002; clear HO_1213000; clear HO_1213001; clear HO_1213002; clear HO1216; clear HO1219; clear HO1222; clear BK1170; clear BK1191; clear BK1201; clear BK1212; clear HB; have HO_1192000 := n0_; have HO_1192001 := n1_; have HO_1192002 := n2_; have HO_1202000 := n3_; have HO_1202001 := n4_; have HO_1202002 := n5_; have HO_1213000 := n6_; have HO_1213001 := n7_; have HO_1213002 := n8_; have HO1216 := n9_; have HO1219 := n10_; have HO1222 := n11_; have BK1170 := n12_; have BK1191 := n13_; have BK1201 := n14_; have BK1212 := n15_; have HB := n16_; clear n0_ n1_ n2_ n3_ n4_ n5_ n6_ n7_ n8_ n9_ n10_ n11_ n12_ n13_ n14_ n15_ n16_; (try clear hb); (try clear hb2); (try clear hk); (try clear hi)))
         go_meet
         case rel => exact ⟨_, ((t1211 != t1190)), (by first | rfl | (simp; done) | (simp [*]; done)), H', ⟨by have := HJ11.out; first | omega | exact Nat.le_refl _⟩, ⟨by (with_reducible repeat (first | apply rA_ | apply rN_ | apply rD_)); exact Kd.R_mono HO_1192000.out (fun _ hk => ⟨hk.1, hk.2.1⟩)⟩, ⟨by (with_reducible repeat (first | apply rA_ | apply rN_ | apply rD_)); exact Kd.R_mono HO_1192001.out (fun _ hk => ⟨hk.1, ⟨hk.2.1, ⟨hk.2.2.1, ⟨hk.2.2.2.1, hk.2.2.2.2.1⟩⟩⟩⟩)⟩, ⟨by (with_reducible repeat (first | apply rA_ | apply rN_ | apply rD_)); exact Kd.R_mono HO_1192002.out (fun _ hk => ⟨hk.1, ⟨hk.2.1, ⟨hk.2.2.1, ⟨hk.2.2.2.1, hk.2.2.2.2.1⟩⟩⟩⟩)⟩, ⟨by (with_reducible repeat (first | apply rA_ | apply rN_ | apply rD_)); exact Kd.R_mono HO_1202000.out (fun _ hk => ⟨hk.1.1, hk.1.2⟩)⟩, ⟨by (with_reducible repeat (first | apply rA_ | apply rN_ | apply rD_)); exact Kd.R_mono HO_1202001.out (fun _ hk => ⟨hk.1.1.1, ⟨hk.1.1.2.1, ⟨hk.1.1.2.2.1, ⟨hk.1.1.2.2.2.1, hk.1.1.2.2.2.2⟩⟩⟩⟩)⟩, ⟨by (with_reducible repeat (first | apply rA_ | apply rN_ | apply rD_)); exact Kd.R_mono HO_1202002.out (fun _ hk => ⟨hk.1.1.1, ⟨hk.1.1.2.1, ⟨hk.1.1.2.2.1, ⟨hk.1.1.2.2.2.1, hk.1.1.2.2.2.2⟩⟩⟩⟩)⟩, ⟨by (with_reducible repeat (first | apply rA_ | apply rN_ | apply rD_)); exact Kd.R_mono HO_1213000.out (fun _ hk => ⟨hk.1, hk.2.1⟩)⟩, ⟨by (with_reducible repeat (first | apply rA_ | apply rN_ | apply rD_)); exact Kd.R_mono HO_1213001.out (fun _ hk => ⟨hk.1, ⟨hk.2.1, ⟨hk.2.2.1, ⟨hk.2.2.2.1, hk.2.2.2.2.1⟩⟩⟩⟩)⟩, ⟨by (with_reducible repeat (first | apply rA_ | apply rN_ | apply rD_)); exact Kd.R_mono HO_1213002.out (fun _ hk => ⟨hk.1, ⟨hk.2.1, ⟨hk.2.2.1, ⟨hk.2.2.2.1, hk.2.2.2.2.1⟩⟩⟩⟩)⟩, ⟨by (with_reducible repeat (first | apply lN_ | apply lD_ | apply lA_)); exact BK1170.out⟩, ⟨by (with_reducible repeat (first | apply lN_ | apply lD_ | apply lA_)); exact BK1191.out⟩, ⟨by (with_reducible repeat (first | apply lN_ | apply lD_ | apply lA_)); exact BK1201.out⟩, ⟨by (with_reducible repeat (first | apply lN_ | apply lD_ | apply lA_)); exact BK1212.out⟩, ⟨bb4_ HB GE1170 GE1191 GE1201 GE1212⟩⟩
        ·replace c83 := Bool.eq_false_iff.mpr c83
         subst c83
         have H1 : (laws_FnExactDeleteItem.j1 kj11 a1 t1190 true l0_0 l0_1 l0_2 t1181 t1184 t1187 t1202 t1205 t1208) = some r := by rw [if_neg (show ¬ (false = true) by decide)] at H; exact H
         clear H
         have H := H1
         clear H1
         have H' := Aside0.mk H
         clear H
         have hnb92 := NB1212_1170.out
         have hnc92 := NB1170_1212.out
         have hnb93 := NB1212_1191.out
         have hnc93 := NB1191_1212.out
         have hnb94 := NB1212_1201.out
         have hnc94 := NB1201_1212.out
         have hcz95_0 := cz0_ BK1212
         have hcz95_1 := cz1_ BK1212
         have hcz95_2 := cz2_ BK1212
         have hfz95_0 := fz_ BK1212 0
         have hfz95_1 := fz_ BK1212 1
         have hfz95_2 := fz_ BK1212 2
         have hnb96 := NB1191_1170.out
         have hnc96 := NB1170_1191.out
         have hnb97 := NB1191_1201.out
         have hnc97 := NB1201_1191.out
         have hcz98_0 := cz0_ BK1191
         have hcz98_1 := cz1_ BK1191
         have hcz98_2 := cz2_ BK1191
         have hfz98_0 := fz_ BK1191 0
         have hfz98_1 := fz_ BK1191 1
         have hfz98_2 := fz_ BK1191 2
         go_wp2_with (first | (go_at_call 23; (with_reducible refine (laws_eqDesk.calls kj11 _ _ t1202 _ _ t1205 _ _ t1208 _ _ t1181 _ _ t1184 _ _ t1187 false _ ?side1 ?side2 ?side3 ?side4 ?side5 ?side6 ?side7 ?side8 ?side9 ?side10 ?side11 ?side12 A82.out).mono ?_); (case side1 => exact cr_ HO_1213000); (case side2 => exact (Kd.R_reads' HO_1213000.out).2.1); (case side3 => exact cr_ HO_1213001); (case side4 => exact (Kd.R_reads' HO_1213001.out).2.1); (case side5 => exact cr_ HO_1213002); (case side6 => exact (Kd.R_reads' HO_1213002.out).2.1); (case side7 => exact cr_ HO_1192000); (case side8 => exact (Kd.R_reads' HO_1192000.out).2.1); (case side9 => exact cr_ HO_1192001); (case side10 => exact (Kd.R_reads' HO_1192001.out).2.1); (case side11 => exact cr_ HO_1192002); (case side12 => exact (Kd.R_reads' HO_1192002.out).2.1); rintro e w99 ⟨rfl, hb⟩; have n0_ := Aside0.mk (Kd.R_below (ra_ HO_1192000) hb); have n1_ := Aside0.mk (Kd.R_below (ra_ HO_1192001) hb); have n2_ := Aside0.mk (Kd.R_below (ra_ HO_1192002) hb); have n3_ := Aside0.mk (Kd.R_below (ra_ HO_1202000) hb); have n4_ := Aside0.mk (Kd.R_below (ra_ HO_1202001) hb); have n5_ := Aside0.mk (Kd.R_below (ra_ HO_1202002) hb); have n6_ := Aside0.mk (Kd.R_below (ra_ HO_1213000) hb); have n7_ := Aside0.mk (Kd.R_below (ra_ HO_1213001) hb); have n8_ := Aside0.mk (Kd.R_below (ra_ HO_1213002) hb); have n9_ := Aside0.mk (Kd.R_below (ra_ HO1216) hb); have n10_ := Aside0.mk (Kd.R_below (ra_ HO1219) hb); have n11_ := Aside0.mk (Kd.R_below (ra_ HO1222) hb); have n12_ := Aside0.mk (lb_ BK1170 hb); have n13_ := Aside0.mk (lb_ BK1191 hb); have n14_ := Aside0.mk (lb_ BK1201 hb); have n15_ := Aside0.mk (lb_ BK1212 hb); have n16_ := Aside0.mk (below_step (bb4_ HB GE1170 GE1191 GE1201 GE1212) hb); clear HO_1192000; clear HO_1192001; clear HO_1192002; clear HO_1202000; clear HO_1202001; clear HO_1202002; clear HO_1213000; clear HO_1213001; clear HO_1213002; clear HO1216; clear HO1219; clear HO1222; clear BK1170; clear BK1191; clear BK1201; clear BK1212; clear HB; have HO_1192000 := n0_; have HO_1192001 := n1_; have HO_1192002 := n2_; have HO_1202000 := n3_; have HO_1202001 := n4_; have HO_1202002 := n5_; have HO_1213000 := n6_; have HO_1213001 := n7_; have HO_1213002 := n8_; have HO1216 := n9_; have HO1219 := n10_; have HO1222 := n11_; have BK1170 := n12_; have BK1191 := n13_; have BK1201 := n14_; have BK1212 := n15_; have HB := n16_; clear n0_ n1_ n2_ n3_ n4_ n5_ n6_ n7_ n8_ n9_ n10_ n11_ n12_ n13_ n14_ n15_ n16_; (try clear hb); (try clear hb2); (try clear hk); (try clear hi)))
         go_meet
         case rel => exact ⟨_, (true), (by first | rfl | (simp; done) | (simp [*]; done)), H', ⟨by have := HJ11.out; first | omega | exact Nat.le_refl _⟩, ⟨by (with_reducible repeat (first | apply rA_ | apply rN_ | apply rD_)); exact Kd.R_mono HO_1192000.out (fun _ hk => ⟨hk.1, hk.2.1⟩)⟩, ⟨by (with_reducible repeat (first | apply rA_ | apply rN_ | apply rD_)); exact Kd.R_mono HO_1192001.out (fun _ hk => ⟨hk.1, ⟨hk.2.1, ⟨hk.2.2.1, ⟨hk.2.2.2.1, hk.2.2.2.2.1⟩⟩⟩⟩)⟩, ⟨by (with_reducible repeat (first | apply rA_ | apply rN_ | apply rD_)); exact Kd.R_mono HO_1192002.out (fun _ hk => ⟨hk.1, ⟨hk.2.1, ⟨hk.2.2.1, ⟨hk.2.2.2.1, hk.2.2.2.2.1⟩⟩⟩⟩)⟩, ⟨by (with_reducible repeat (first | apply rA_ | apply rN_ | apply rD_)); exact Kd.R_mono HO_1202000.out (fun _ hk => ⟨hk.1.1, hk.1.2⟩)⟩, ⟨by (with_reducible repeat (first | apply rA_ | apply rN_ | apply rD_)); exact Kd.R_mono HO_1202001.out (fun _ hk => ⟨hk.1.1.1, ⟨hk.1.1.2.1, ⟨hk.1.1.2.2.1, ⟨hk.1.1.2.2.2.1, hk.1.1.2.2.2.2⟩⟩⟩⟩)⟩, ⟨by (with_reducible repeat (first | apply rA_ | apply rN_ | apply rD_)); exact Kd.R_mono HO_1202002.out (fun _ hk => ⟨hk.1.1.1, ⟨hk.1.1.2.1, ⟨hk.1.1.2.2.1, ⟨hk.1.1.2.2.2.1, hk.1.1.2.2.2.2⟩⟩⟩⟩)⟩, ⟨by (with_reducible repeat (first | apply rA_ | apply rN_ | apply rD_)); exact Kd.R_mono HO_1213000.out (fun _ hk => ⟨hk.1, hk.2.1⟩)⟩, ⟨by (with_reducible repeat (first | apply rA_ | apply rN_ | apply rD_)); exact Kd.R_mono HO_1213001.out (fun _ hk => ⟨hk.1, ⟨hk.2.1, ⟨hk.2.2.1, ⟨hk.2.2.2.1, hk.2.2.2.2.1⟩⟩⟩⟩)⟩, ⟨by (with_reducible repeat (first | apply rA_ | apply rN_ | apply rD_)); exact Kd.R_mono HO_1213002.out (fun _ hk => ⟨hk.1, ⟨hk.2.1, ⟨hk.2.2.1, ⟨hk.2.2.2.1, hk.2.2.2.2.1⟩⟩⟩⟩)⟩, ⟨by (with_reducible repeat (first | apply lN_ | apply lD_ | apply lA_)); exact BK1170.out⟩, ⟨by (with_reducible repeat (first | apply lN_ | apply lD_ | apply lA_)); exact BK1191.out⟩, ⟨by (with_reducible repeat (first | apply lN_ | apply lD_ | apply lA_)); exact BK1201.out⟩, ⟨by (with_reducible repeat (first | apply lN_ | apply lD_ | apply lA_)); exact BK1212.out⟩, ⟨bb4_ HB GE1170 GE1191 GE1201 GE1212⟩⟩
      case rest =>
       clear HC69
       try clear c1
       try clear c2
       try clear p2
       try clear c3
       try clear c4
       try clear c4b0
       try clear c5
       try clear c6
       try clear c7
       try clear c8
       try clear c9
       try clear c12
       try clear c23
       try clear c24
       try clear c26
       try clear c28
       try clear c30
       try clear c32
       try clear c33
       try clear c40
       try clear c41
       try clear c42
       try clear c45
       try clear c46
       try clear c47
       try clear c48
       try clear c49
       try clear c50
       try clear c52
       try clear c53
       try clear c56
       try clear c57
       try clear c58
       try clear c60
       try clear c61
       try clear c64
       try clear c67
       try clear c76
       try clear c77
       try clear c78
       try clear c81
       try clear c81b0
       try clear c83
       try clear c84
       try clear c85
       try clear c86
       try clear c88
       try clear c89
       try clear c92
       try clear c93
       try clear c94
       try clear c96
       try clear c97
       try clear hcz14_0
       try clear hcz14_1
       try clear hcz14_2
       try clear hcz16_0
       try clear hcz16_1
       try clear hcz16_2
       try clear hcz25_0
       try clear hcz25_1
       try clear hcz25_2
       try clear hcz28_0
       try clear hcz28_1
       try clear hcz28_2
       try clear hcz34_0
       try clear hcz34_1
       try clear hcz34_2
       try clear hcz43_0
       try clear hcz43_1
       try clear hcz43_2
       try clear hcz51_0
       try clear hcz51_1
       try clear hcz51_2
       try clear hcz54_0
       try clear hcz54_1
       try clear hcz54_2
       try clear hcz59_0
       try clear hcz59_1
       try clear hcz59_2
       try clear hcz62_0
       try clear hcz62_1
       try clear hcz62_2
       try clear hcz6_0
       try clear hcz6_1
       try clear hcz6_2
       try clear hcz79_0
       try clear hcz79_1
       try clear hcz79_2
       try clear hcz87_0
       try clear hcz87_1
       try clear hcz87_2
       try clear hcz90_0
       try clear hcz90_1
       try clear hcz90_2
       try clear hcz95_0
       try clear hcz95_1
       try clear hcz95_2
       try clear hcz98_0
       try clear hcz98_1
       try clear hcz98_2
       try clear hfz14_0
       try clear hfz14_1
       try clear hfz14_2
       try clear hfz16_0
       try clear hfz16_1
       try clear hfz16_2
       try clear hfz25_0
       try clear hfz25_1
       try clear hfz25_2
       try clear hfz28_0
       try clear hfz28_1
       try clear hfz28_2
       try clear hfz34_0
       try clear hfz34_1
       try clear hfz34_2
       try clear hfz43_0
       try clear hfz43_1
       try clear hfz43_2
       try clear hfz51_0
       try clear hfz51_1
       try clear hfz51_2
       try clear hfz54_0
       try clear hfz54_1
       try clear hfz54_2
       try clear hfz59_0
       try clear hfz59_1
       try clear hfz59_2
       try clear hfz62_0
       try clear hfz62_1
       try clear hfz62_2
       try clear hfz6_0
       try clear hfz6_1
       try clear hfz6_2
       try clear hfz79_0
       try clear hfz79_1
       try clear hfz79_2
       try clear hfz87_0
       try clear hfz87_1
       try clear hfz87_2
       try clear hfz90_0
       try clear hfz90_1
       try clear hfz90_2
       try clear hfz95_0
       try clear hfz95_1
       try clear hfz95_2
       try clear hfz98_0
       try clear hfz98_1
       try clear hfz98_2
       try clear p2
       obtain ⟨kq, x65_68, rfl, HA, HJ68, HO_1192000, HO_1192001, HO_1192002, HO_1202000, HO_1202001, HO_1202002, HO_1213000, HO_1213001, HO_1213002, BK1170, BK1191, BK1201, BK1212, HB⟩ := hcut
       have hl1202000_68 := (Kd.R_reads' HO_1202000.out).1
       rw [hl1202000_68] at HO_1202000
       (try simp only [hl1202000_68])
       (try simp only [hl1202000_68] at BK1170)
       (try simp only [hl1202000_68] at BK1191)
       (try simp only [hl1202000_68] at BK1201)
       (try simp only [hl1202000_68] at BK1212)
       (try simp only [hl1202000_68] at HO_1192000)
       (try simp only [hl1202000_68] at HO_1192001)
       (try simp only [hl1202000_68] at HO_1192002)
       (try simp only [hl1202000_68] at HO_1202001)
       (try simp only [hl1202000_68] at HO_1202002)
       (try simp only [hl1202000_68] at HO_1213000)
       (try simp only [hl1202000_68] at HO_1213001)
       (try simp only [hl1202000_68] at HO_1213002)
       have hl1202001_68 := (Kd.R_reads' HO_1202001.out).1
       rw [hl1202001_68] at HO_1202001
       (try simp only [hl1202001_68])
       (try simp only [hl1202001_68] at BK1170)
       (try simp only [hl1202001_68] at BK1191)
       (try simp only [hl1202001_68] at BK1201)
       (try simp only [hl1202001_68] at BK1212)
       (try simp only [hl1202001_68] at HO_1192000)
       (try simp only [hl1202001_68] at HO_1192001)
       (try simp only [hl1202001_68] at HO_1192002)
       (try simp only [hl1202001_68] at HO_1202000)
       (try simp only [hl1202001_68] at HO_1202002)
       (try simp only [hl1202001_68] at HO_1213000)
       (try simp only [hl1202001_68] at HO_1213001)
       (try simp only [hl1202001_68] at HO_1213002)
       have hl1202002_68 := (Kd.R_reads' HO_1202002.out).1
       rw [hl1202002_68] at HO_1202002
       (try simp only [hl1202002_68])
       (try simp only [hl1202002_68] at BK1170)
       (try simp only [hl1202002_68] at BK1191)
       (try simp only [hl1202002_68] at BK1201)
       (try simp only [hl1202002_68] at BK1212)
       (try simp only [hl1202002_68] at HO_1192000)
       (try simp only [hl1202002_68] at HO_1192001)
       (try simp only [hl1202002_68] at HO_1192002)
       (try simp only [hl1202002_68] at HO_1202000)
       (try simp only [hl1202002_68] at HO_1202001)
       (try simp only [hl1202002_68] at HO_1213000)
       (try simp only [hl1202002_68] at HO_1213001)
       (try simp only [hl1202002_68] at HO_1213002)
       cases kq with
       | zero => exact absurd HA.out (by simp [laws_FnExactDeleteItem.j1])
       | succ kj68 =>
        have H := HA.out
        clear HA
        simp only [laws_FnExactDeleteItem.j1] at H
        by_cases c100 : x65_68 = true
        ·subst c100
         have H1 : (none) = some r := by rw [if_pos rfl] at H; exact H
         clear H
         have H := H1
         clear H1
         exact absurd H (by simp)
        ·replace c100 := Bool.eq_false_iff.mpr c100
         subst c100
         have H1 : ((laws_markDesk.f kj68 t1202 t1205 t1208 1).bind fun bt1229 => ((laws_heldDesk.f kj68 bt1229.2.1 bt1229.2.2.1 bt1229.2.2.2 1).bind fun t1233 => (if t1233 < 0 then (none) else (if t1233 = bt1229.1 then ((laws_toDesk.f kj68 l0_0 l0_1 l0_2).bind fun bt1234 => ((impl_DeleteItem.f kj68 bt1234.1 bt1234.2.1 bt1234.2.2 a1).bind fun bt1243 => ((laws_eqDesk.f kj68 bt1243.1 bt1243.2.1 bt1243.2.2.1 t1181 t1184 t1187).bind fun t1254 => (if t1254 = true then (laws_FnExactDeleteItem.j2 kj68 bt1229.1 (bt1243.2.2.2 != t1190) bt1229.2.1 bt1229.2.2.1 bt1229.2.2.2) else (laws_FnExactDeleteItem.j2 kj68 bt1229.1 true bt1229.2.1 bt1229.2.2.1 bt1229.2.2.2))))) else (none))))) = some r := by rw [if_neg (show ¬ (false = true) by decide)] at H; exact H
         clear H
         have H := H1
         clear H1
         replace H := Option.bind_eq_some_iff.mp H
         obtain ⟨⟨t1229, t1230, t1231, t1232⟩, A1010, H⟩ := H
         try dsimp only at H
         have A101 := Aside0.mk A1010
         clear A1010
         replace H := Option.bind_eq_some_iff.mp H
         obtain ⟨t1233, A1020, H⟩ := H
         try dsimp only at H
         have A102 := Aside0.mk A1020
         clear A1020
         by_cases c103 : t1233 < 0
         ·rw [if_pos c103] at H
          exact absurd H (by simp)
         ·rw [if_neg c103] at H
          have c103b0 : decide (t1233 < 0) = false := decide_eq_false c103
          clear c103
          by_cases c104 : t1233 = t1229
          ·rw [if_pos c104] at H
           have c104b0 : (t1233 == t1229) = true := beq_iff_eq.mpr c104
           have c104b1 : (t1233 != t1229) = false := bne_eq_false_iff_eq.mpr c104
           clear c104
           replace H := Option.bind_eq_some_iff.mp H
           obtain ⟨⟨t1234, t1237, t1240⟩, A1050, H⟩ := H
           try dsimp only at H
           have A105 := Aside0.mk A1050
           clear A1050
           replace H := Option.bind_eq_some_iff.mp H
           obtain ⟨⟨t1243, t1246, t1249, t1252⟩, A1060, H⟩ := H
           try dsimp only at H
           have A106 := Aside0.mk A1060
           clear A1060
           have HC107 := Aside0.mk H
           clear H
           have hnb108 := NB1212_1170.out
           have hnc108 := NB1170_1212.out
           have hnb109 := NB1212_1191.out
           have hnc109 := NB1191_1212.out
           have hnb110 := NB1212_1201.out
           have hnc110 := NB1201_1212.out
           have hcz111_0 := cz0_ BK1212
           have hcz111_1 := cz1_ BK1212
           have hcz111_2 := cz2_ BK1212
           have hfz111_0 := fz_ BK1212 0
           have hfz111_1 := fz_ BK1212 1
           have hfz111_2 := fz_ BK1212 2
           go_upto_region 25 with (first | ((with_reducible refine gate_callee (f := 26) rfl ?_); refine goesL_ (some 68) rfl rfl Try.func26 (by kernel_rfl) rfl #[.agg #[.slice Ao39 t1202.length co39, .slice Ao44 t1205.length co44, .slice Ao45 t1208.length co45], .int .i64 1] rfl args_ ?_; (with_reducible refine (laws_markDesk.calls kj68 (fun k_ => some k_ = (.slice Ao39 t1202.length co39 : Value).ownBlock) (.slice Ao39 t1202.length co39) t1202 (fun k_ => some k_ = (.slice Ao44 t1205.length co44 : Value).ownBlock) (.slice Ao44 t1205.length co44) t1205 (fun k_ => some k_ = (.slice Ao45 t1208.length co45 : Value).ownBlock) (.slice Ao45 t1208.length co45) t1208 1 t1229 t1230 t1231 t1232 w _ ?side1 ?side2 ?side3 ?side4 ?side5 ?side6 A101.out).mono ?_); (case side1 => repeat (first | (with_reducible first | exact HB.out | apply bA_ | apply bN_ | apply bD_ | refine bS_ ?_ GE1170.out | refine bS_ ?_ GE1191.out | refine bS_ ?_ GE1201.out | refine bS_ ?_ GE1212.out) | exact HB.out)); (case side2 => exact Kd.R_tight rfl HO_1213000.out); (case side3 => exact Kd.R_tight rfl HO_1213001.out); (case side4 => exact fun k_ e_ => (HO_1213001.out.1 k_ e_.symm).2.2.2.2); (case side5 => exact Kd.R_tight rfl HO_1213002.out); (case side6 => exact fun k_ e_ => (HO_1213002.out.1 k_ e_.symm).2.2.2.2); rintro e w112 ⟨rfl, hy0, hy1, hy2, hb, hkp⟩; refine ⟨_, rfl, ?_⟩; have n0_ := Aside0.mk (Kd.R_mono (ok' := fun k_ => some k_ ≠ (.slice Ao31 t1225.length co31 : Value).ownBlock ∧ some k_ ≠ (.slice Ao39 t1202.length co39 : Value).ownBlock) (Kd.R_keptB ((Kd.R_apart' (Kd.R_apart' HO_1192000.out (Kd.R_typed HO_1213001.out) (by decide)) (Kd.R_typed HO_1213002.out) (by decide))) hkp (fun k_ hk_ hs_ => Or.elim hs_ (fun e_ => (hk_.1.1.2) e_) (fun e_ => Or.elim e_ (fun e_ => (hk_.1.2) e_) (fun e_ => (hk_.2) e_)))) (fun k_ hk_ => ⟨hk_.1.1.1.1, hk_.1.1.1.2⟩)); have n1_ := Aside0.mk (Kd.R_mono (ok' := fun k_ => some k_ ≠ (.slice Ao27 t1187.length co27 : Value).ownBlock ∧ some k_ ≠ (.slice Ao35 t1226.length co35 : Value).ownBlock ∧ some k_ ≠ (.slice Ao36 t1227.length co36 : Value).ownBlock ∧ some k_ ≠ (.slice Ao44 t1205.length co44 : Value).ownBlock ∧ some k_ ≠ (.slice Ao45 t1208.length co45 : Value).ownBlock) (Kd.R_keptB ((Kd.R_apart' HO_1192001.out (Kd.R_typed HO_1213000.out) (by decide))) hkp (fun k_ hk_ hs_ => Or.elim hs_ (fun e_ => (hk_.2) e_) (fun e_ => Or.elim e_ (fun e_ => (hk_.1.2.2.2.1) e_) (fun e_ => (hk_.1.2.2.2.2) e_)))) (fun k_ hk_ => ⟨hk_.1.1.1, hk_.1.1.2.1, hk_.1.1.2.2.1, hk_.1.1.2.2.2.1, hk_.1.1.2.2.2.2⟩)); have n2_ := Aside0.mk (Kd.R_mono (ok' := fun k_ => some k_ ≠ (.slice Ao26 t1184.length co26 : Value).ownBlock ∧ some k_ ≠ (.slice Ao35 t1226.length co35 : Value).ownBlock ∧ some k_ ≠ (.slice Ao36 t1227.length co36 : Value).ownBlock ∧ some k_ ≠ (.slice Ao44 t1205.length co44 : Value).ownBlock ∧ some k_ ≠ (.slice Ao45 t1208.length co45 : Value).ownBlock) (Kd.R_keptB ((Kd.R_apart' HO_1192002.out (Kd.R_typed HO_1213000.out) (by decide))) hkp (fun k_ hk_ hs_ => Or.elim hs_ (fun e_ => (hk_.2) e_) (fun e_ => Or.elim e_ (fun e_ => (hk_.1.2.2.2.1) e_) (fun e_ => (hk_.1.2.2.2.2) e_)))) (fun k_ hk_ => ⟨hk_.1.1.1, hk_.1.1.2.1, hk_.1.1.2.2.1, hk_.1.1.2.2.2.1, hk_.1.1.2.2.2.2⟩)); have n3_ := Aside0.mk (Kd.R_mono (ok' := fun k_ => some k_ ≠ (.slice Ao23 t1181.length co23 : Value).ownBlock ∧ some k_ ≠ (.slice Ao39 t1202.length co39 : Value).ownBlock) (Kd.R_keptB ((Kd.R_apart' (Kd.R_apart' HO_1202000.out (Kd.R_typed HO_1213001.out) (by decide)) (Kd.R_typed HO_1213002.out) (by decide))) hkp (fun k_ hk_ hs_ => Or.elim hs_ (fun e_ => (hk_.1.1.2) e_) (fun e_ => Or.elim e_ (fun e_ => (hk_.1.2) e_) (fun e_ => (hk_.2) e_)))) (fun k_ hk_ => ⟨hk_.1.1.1.1, hk_.1.1.1.2⟩)); have n4_ := Aside0.mk (Kd.R_mono (ok' := fun k_ => some k_ ≠ (.slice Ao26 t1184.length co26 : Value).ownBlock ∧ some k_ ≠ (.slice Ao27 t1187.length co27 : Value).ownBlock ∧ some k_ ≠ (.slice Ao36 t1227.length co36 : Value).ownBlock ∧ some k_ ≠ (.slice Ao44 t1205.length co44 : Value).ownBlock ∧ some k_ ≠ (.slice Ao45 t1208.length co45 : Value).ownBlock) (Kd.R_keptB ((Kd.R_apart' HO_1202001.out (Kd.R_typed HO_1213000.out) (by decide))) hkp (fun k_ hk_ hs_ => Or.elim hs_ (fun e_ => (hk_.2) e_) (fun e_ => Or.elim e_ (fun e_ => (hk_.1.2.2.2.1) e_) (fun e_ => (hk_.1.2.2.2.2) e_)))) (fun k_ hk_ => ⟨hk_.1.1.1, hk_.1.1.2.1, hk_.1.1.2.2.1, hk_.1.1.2.2.2.1, hk_.1.1.2.2.2.2⟩)); have n5_ := Aside0.mk (Kd.R_mono (ok' := fun k_ => some k_ ≠ (.slice Ao26 t1184.length co26 : Value).ownBlock ∧ some k_ ≠ (.slice Ao27 t1187.length co27 : Value).ownBlock ∧ some k_ ≠ (.slice Ao35 t1226.length co35 : Value).ownBlock ∧ some k_ ≠ (.slice Ao44 t1205.length co44 : Value).ownBlock ∧ some k_ ≠ (.slice Ao45 t1208.length co45 : Value).ownBlock) (Kd.R_keptB ((Kd.R_apart' HO_1202002.out (Kd.R_typed HO_1213000.out) (by decide))) hkp (fun k_ hk_ hs_ => Or.elim hs_ (fun e_ => (hk_.2) e_) (fun e_ => Or.elim e_ (fun e_ => (hk_.1.2.2.2.1) e_) (fun e_ => (hk_.1.2.2.2.2) e_)))) (fun k_ hk_ => ⟨hk_.1.1.1, hk_.1.1.2.1, hk_.1.1.2.2.1, hk_.1.1.2.2.2.1, hk_.1.1.2.2.2.2⟩)); have n6_ := Aside0.mk (Kd.R_reok rfl hy0 (fun k_ e_ => HO_1213000.out.1 k_ e_)); have n7_ := Aside0.mk (Kd.R_reok rfl hy1 (fun k_ e_ => HO_1213001.out.1 k_ e_)); have n8_ := Aside0.mk (Kd.R_reok rfl hy2 (fun k_ e_ => HO_1213002.out.1 k_ e_)); have n9_ := Aside0.mk (blk_kept (la_ BK1170) hkp (fun hs_ => Or.elim hs_ (fun e_ => (fun e_ => (Kd.R_ne HO_1213000.out BK1170.out (by decide)) e_) e_) (fun e_ => Or.elim e_ (fun e_ => (fun e_ => (Kd.R_ne HO_1213001.out BK1170.out (by decide)) e_) e_) (fun e_ => (fun e_ => (Kd.R_ne HO_1213002.out BK1170.out (by decide)) e_) e_)))); have n10_ := Aside0.mk (blk_kept (la_ BK1191) hkp (fun hs_ => Or.elim hs_ (fun e_ => (fun e_ => (Kd.R_ne HO_1213000.out BK1191.out (by decide)) e_) e_) (fun e_ => Or.elim e_ (fun e_ => (fun e_ => (Kd.R_ne HO_1213001.out BK1191.out (by decide)) e_) e_) (fun e_ => (fun e_ => (Kd.R_ne HO_1213002.out BK1191.out (by decide)) e_) e_)))); have n11_ := Aside0.mk (blk_kept (la_ BK1201) hkp (fun hs_ => Or.elim hs_ (fun e_ => (fun e_ => (Kd.R_ne HO_1213000.out BK1201.out (by decide)) e_) e_) (fun e_ => Or.elim e_ (fun e_ => (fun e_ => (Kd.R_ne HO_1213001.out BK1201.out (by decide)) e_) e_) (fun e_ => (fun e_ => (Kd.R_ne HO_1213002.out BK1201.out (by decide)) e_) e_)))); have n12_ := Aside0.mk (blk_kept (la_ BK1212) hkp (fun hs_ => Or.elim hs_ (fun e_ => (fun e_ => (Kd.R_ne HO_1213000.out BK1212.out (by decide)) e_) e_) (fun e_ => Or.elim e_ (fun e_ => (fun e_ => (Kd.R_ne HO_1213001.out BK1212.out (by decide)) e_) e_) (fun e_ => (fun e_ => (Kd.R_ne HO_1213002.out BK1212.out (by decide)) e_) e_)))); have n13_ := Aside0.mk (hb); clear HO_1192000; clear HO_1192001; clear HO_1192002; clear HO_1202000; clear HO_1202001; clear HO_1202002; clear HO_1213000; clear HO_1213001; clear HO_1213002; clear BK1170; clear BK1191; clear BK1201; clear BK1212; clear HB; have HO_1192000 := n0_; have HO_1192001 := n1_; have HO_1192002 := n2_; have HO_1202000 := n3_; have HO_1202001 := n4_; have HO_1202002 := n5_; have HO_1213000 := n6_; have HO_1213001 := n7_; have HO_1213002 := n8_; have BK1170 := n9_; have BK1191 := n10_; have BK1201 := n11_; have BK1212 := n12_; have HB := n13_; clear n0_ n1_ n2_ n3_ n4_ n5_ n6_ n7_ n8_ n9_ n10_ n11_ n12_ n13_; (try clear hb); (try clear hkp); (try clear hy0); (try clear hy1); (try clear hy2); have hcz113_0 := cz0_ BK1212; have hcz113_1 := cz1_ BK1212; have hcz113_2 := cz2_ BK1212; have hfz113_0 := fz_ BK1212 0; have hfz113_1 := fz_ BK1212 1; have hfz113_2 := fz_ BK1212 2) | ((with_reducible refine gate_callee (f := 27) rfl ?_); refine goesL_ (some 71) rfl rfl Try.func27 (by kernel_rfl) rfl #[.agg #[.slice Ao39 t1230.length co39, .slice Ao44 t1231.length co44, .slice Ao45 t1232.length co45], .int .i64 1] rfl (by (try simp only [List.map_toArray, List.map_cons, List.map_nil]); first | done | (rw [show t1230.length = t1202.length from (Kd.R_reads' HO_1213000.out).1.symm, show t1231.length = t1205.length from (Kd.R_reads' HO_1213001.out).1.symm, show t1232.length = t1208.length from (Kd.R_reads' HO_1213002.out).1.symm] <;> rfl) | rfl | (simp only [List.length_drop, List.length_take]; rfl)) ?_; (with_reducible refine (laws_heldDesk.calls kj68 _ _ t1230 _ _ t1231 _ _ t1232 1 t1233 _ ?side1 ?side2 ?side3 ?side4 ?side5 ?side6 A102.out).mono ?_); (case side1 => exact cr_ HO_1213000); (case side2 => rw [show t1230.length = t1202.length from (Kd.R_reads' HO_1213000.out).1.symm]; exact (Kd.R_reads' HO_1213000.out).2.1); (case side3 => exact cr_ HO_1213001); (case side4 => rw [show t1231.length = t1205.length from (Kd.R_reads' HO_1213001.out).1.symm]; exact (Kd.R_reads' HO_1213001.out).2.1); (case side5 => exact cr_ HO_1213002); (case side6 => rw [show t1232.length = t1208.length from (Kd.R_reads' HO_1213002.out).1.symm]; exact (Kd.R_reads' HO_1213002.out).2.1); rintro e w114 ⟨rfl, hb⟩; refine ⟨_, rfl, ?_⟩; have n0_ := Aside0.mk (Kd.R_below (ra_ HO_1192000) hb); have n1_ := Aside0.mk (Kd.R_below (ra_ HO_1192001) hb); have n2_ := Aside0.mk (Kd.R_below (ra_ HO_1192002) hb); have n3_ := Aside0.mk (Kd.R_below (ra_ HO_1202000) hb); have n4_ := Aside0.mk (Kd.R_below (ra_ HO_1202001) hb); have n5_ := Aside0.mk (Kd.R_below (ra_ HO_1202002) hb); have n6_ := Aside0.mk (Kd.R_below (ra_ HO_1213000) hb); have n7_ := Aside0.mk (Kd.R_below (ra_ HO_1213001) hb); have n8_ := Aside0.mk (Kd.R_below (ra_ HO_1213002) hb); have n9_ := Aside0.mk (lb_ BK1170 hb); have n10_ := Aside0.mk (lb_ BK1191 hb); have n11_ := Aside0.mk (lb_ BK1201 hb); have n12_ := Aside0.mk (lb_ BK1212 hb); have n13_ := Aside0.mk (below_step (bb4_ HB GE1170 GE1191 GE1201 GE1212) hb); clear HO_1192000; clear HO_1192001; clear HO_1192002; clear HO_1202000; clear HO_1202001; clear HO_1202002; clear HO_1213000; clear HO_1213001; clear HO_1213002; clear BK1170; clear BK1191; clear BK1201; clear BK1212; clear HB; have HO_1192000 := n0_; have HO_1192001 := n1_; have HO_1192002 := n2_; have HO_1202000 := n3_; have HO_1202001 := n4_; have HO_1202002 := n5_; have HO_1213000 := n6_; have HO_1213001 := n7_; have HO_1213002 := n8_; have BK1170 := n9_; have BK1191 := n10_; have BK1201 := n11_; have BK1212 := n12_; have HB := n13_; clear n0_ n1_ n2_ n3_ n4_ n5_ n6_ n7_ n8_ n9_ n10_ n11_ n12_ n13_; (try clear hb); (try clear hb2); (try clear hk); (try clear hi); have hnb115 := NB1170_1191.out; have hnc115 := NB1191_1170.out; have hnb116 := NB1170_1201.out; have hnc116 := NB1201_1170.out; have hcz117_0 := cz0_ BK1170; have hcz117_1 := cz1_ BK1170; have hcz117_2 := cz2_ BK1170; have hfz117_0 := fz_ BK1170 0; have hfz117_1 := fz_ BK1170 1; have hfz117_2 := fz_ BK1170 2) | ((with_reducible refine gate_callee (f := 30) rfl ?_); refine goesL_ (some 79) rfl rfl Try.func30 (by kernel_rfl) rfl #[.agg #[.slice A0_0 l0_0.length c0_0, .slice A0_1 l0_1.length c0_1, .slice A0_2 l0_2.length c0_2]] rfl args_ ?_; (with_reducible refine (laws_toDesk.calls kj68 _ _ l0_0 _ _ l0_1 _ _ l0_2 t1234 t1237 t1240 _ ?side1 ?side2 ?side3 ?side4 ?side5 ?side6 A105.out).mono ?_); (case side1 => exact cb_ HR0_0 HB); (case side2 => exact HC0_0.out); (case side3 => exact cb_ HR0_1 HB); (case side4 => exact HC0_1.out); (case side5 => exact cb_ HR0_2 HB); (case side6 => exact HC0_2.out); rintro e w118 ⟨v1235, v1238, v1241, rfl, ho0, ho1, ho2, hb⟩; refine ⟨_, rfl, ?_⟩; have n0_ := Aside0.mk (Kd.R_elder' (ra_ HO_1192000) (Kd.R_base ho0) hb); have n1_ := Aside0.mk (Kd.R_mono (Kd.R_told (Kd.R_told (Kd.R_old (ra_ HO_1192001) hb) (Kd.R_base ho1)) (Kd.R_base ho2)) (fun _ h_ => h_.1)); have n2_ := Aside0.mk (Kd.R_mono (Kd.R_told (Kd.R_told (Kd.R_old (ra_ HO_1192002) hb) (Kd.R_base ho1)) (Kd.R_base ho2)) (fun _ h_ => h_.1)); have n3_ := Aside0.mk (Kd.R_elder' (ra_ HO_1202000) (Kd.R_base ho0) hb); have n4_ := Aside0.mk (Kd.R_mono (Kd.R_told (Kd.R_told (Kd.R_old (ra_ HO_1202001) hb) (Kd.R_base ho1)) (Kd.R_base ho2)) (fun _ h_ => h_.1)); have n5_ := Aside0.mk (Kd.R_mono (Kd.R_told (Kd.R_told (Kd.R_old (ra_ HO_1202002) hb) (Kd.R_base ho1)) (Kd.R_base ho2)) (fun _ h_ => h_.1)); have n6_ := Aside0.mk (Kd.R_elder' (ra_ HO_1213000) (Kd.R_base ho0) hb); have n7_ := Aside0.mk (Kd.R_mono (Kd.R_told (Kd.R_told (Kd.R_old (ra_ HO_1213001) hb) (Kd.R_base ho1)) (Kd.R_base ho2)) (fun _ h_ => h_.1)); have n8_ := Aside0.mk (Kd.R_mono (Kd.R_told (Kd.R_told (Kd.R_old (ra_ HO_1213002) hb) (Kd.R_base ho1)) (Kd.R_base ho2)) (fun _ h_ => h_.1)); have n9_ := Aside0.mk (Kd.R_lower (Kd.R_new' (Kd.R_new' (Kd.R_new' ho0 (Kd.R_lt (ra_ HO_1192000))) (Kd.R_lt (ra_ HO_1202000))) (Kd.R_lt (ra_ HO_1213000))) (below_size (bb4_ HB GE1170 GE1191 GE1201 GE1212))); have n10_ := Aside0.mk (Kd.R_lower (Kd.R_new' (Kd.R_new' (Kd.R_new' (Kd.R_new' (Kd.R_new' (Kd.R_new' ho1 (Kd.R_lt (ra_ HO_1192001))) (Kd.R_lt (ra_ HO_1192002))) (Kd.R_lt (ra_ HO_1202001))) (Kd.R_lt (ra_ HO_1202002))) (Kd.R_lt (ra_ HO_1213001))) (Kd.R_lt (ra_ HO_1213002))) (below_size (bb4_ HB GE1170 GE1191 GE1201 GE1212))); have n11_ := Aside0.mk (Kd.R_lower (Kd.R_new' (Kd.R_new' (Kd.R_new' (Kd.R_new' (Kd.R_new' (Kd.R_new' ho2 (Kd.R_lt (ra_ HO_1192001))) (Kd.R_lt (ra_ HO_1192002))) (Kd.R_lt (ra_ HO_1202001))) (Kd.R_lt (ra_ HO_1202002))) (Kd.R_lt (ra_ HO_1213001))) (Kd.R_lt (ra_ HO_1213002))) (below_size (bb4_ HB GE1170 GE1191 GE1201 GE1212))); have n12_ := Aside0.mk (lb_ BK1170 hb); have n13_ := Aside0.mk (lb_ BK1191 hb); have n14_ := Aside0.mk (lb_ BK1201 hb); have n15_ := Aside0.mk (lb_ BK1212 hb); have n16_ := Aside0.mk (below_step (bb4_ HB GE1170 GE1191 GE1201 GE1212) hb); clear HO_1192000; clear HO_1192001; clear HO_1192002; clear HO_1202000; clear HO_1202001; clear HO_1202002; clear HO_1213000; clear HO_1213001; clear HO_1213002; clear BK1170; clear BK1191; clear BK1201; clear BK1212; clear HB; have HO_1192000 := n0_; have HO_1192001 := n1_; have HO_1192002 := n2_; have HO_1202000 := n3_; have HO_1202001 := n4_; have HO_1202002 := n5_; have HO_1213000 := n6_; have HO_1213001 := n7_; have HO_1213002 := n8_; have HO1236 := n9_; have HO1239 := n10_; have HO1242 := n11_; have BK1170 := n12_; have BK1191 := n13_; have BK1201 := n14_; have BK1212 := n15_; have HB := n16_; clear n0_ n1_ n2_ n3_ n4_ n5_ n6_ n7_ n8_ n9_ n10_ n11_ n12_ n13_ n14_ n15_ n16_; (try clear hb); (try clear hb2); (try clear hk); (try clear hi); (try clear ho0); (try clear ho1); (try clear ho2); obtain ⟨Ao119, co119, eo119⟩ := Kd.R_slice HO1236.out; subst eo119; obtain ⟨Ao120, co120, eo120⟩ := Kd.R_slice HO1239.out; subst eo120; obtain ⟨Ao121, co121, eo121⟩ := Kd.R_slice HO1242.out; subst eo121) | ((with_reducible refine gate_callee (f := 46) rfl ?_); refine goesL_ (some 81) rfl rfl Try.func46 (by kernel_rfl) rfl #[.agg #[.slice Ao119 t1234.length co119, .slice Ao120 t1237.length co120, .slice Ao121 t1240.length co121], .int .i64 a1] rfl args_ ?_; (with_reducible refine (impl_DeleteItem.calls kj68 _ _ t1234 _ _ t1237 _ _ t1240 a1 t1243 t1246 t1249 t1252 _ ?side1 ?side2 ?side3 ?side4 ?side5 ?side6 A106.out).mono ?_); (case side1 => exact cr_ HO1236); (case side2 => exact (Kd.R_reads' HO1236.out).2.1); (case side3 => exact cr_ HO1239); (case side4 => exact (Kd.R_reads' HO1239.out).2.1); (case side5 => exact cr_ HO1242); (case side6 => exact (Kd.R_reads' HO1242.out).2.1); rintro e w122 ⟨v1244, v1247, v1250, rfl, ho0, ho1, ho2, hb⟩; refine ⟨_, rfl, ?_⟩; have n0_ := Aside0.mk (Kd.R_elder' (ra_ HO_1192000) (Kd.R_base ho0) hb); have n1_ := Aside0.mk (Kd.R_mono (Kd.R_told (Kd.R_told (Kd.R_old (ra_ HO_1192001) hb) (Kd.R_base ho1)) (Kd.R_base ho2)) (fun _ h_ => h_.1)); have n2_ := Aside0.mk (Kd.R_mono (Kd.R_told (Kd.R_told (Kd.R_old (ra_ HO_1192002) hb) (Kd.R_base ho1)) (Kd.R_base ho2)) (fun _ h_ => h_.1)); have n3_ := Aside0.mk (Kd.R_elder' (ra_ HO_1202000) (Kd.R_base ho0) hb); have n4_ := Aside0.mk (Kd.R_mono (Kd.R_told (Kd.R_told (Kd.R_old (ra_ HO_1202001) hb) (Kd.R_base ho1)) (Kd.R_base ho2)) (fun _ h_ => h_.1)); have n5_ := Aside0.mk (Kd.R_mono (Kd.R_told (Kd.R_told (Kd.R_old (ra_ HO_1202002) hb) (Kd.R_base ho1)) (Kd.R_base ho2)) (fun _ h_ => h_.1)); have n6_ := Aside0.mk (Kd.R_elder' (ra_ HO_1213000) (Kd.R_base ho0) hb); have n7_ := Aside0.mk (Kd.R_mono (Kd.R_told (Kd.R_told (Kd.R_old (ra_ HO_1213001) hb) (Kd.R_base ho1)) (Kd.R_base ho2)) (fun _ h_ => h_.1)); have n8_ := Aside0.mk (Kd.R_mono (Kd.R_told (Kd.R_told (Kd.R_old (ra_ HO_1213002) hb) (Kd.R_base ho1)) (Kd.R_base ho2)) (fun _ h_ => h_.1)); have n9_ := Aside0.mk (Kd.R_elder' (ra_ HO1236) (Kd.R_base ho0) hb); have n10_ := Aside0.mk (Kd.R_mono (Kd.R_told (Kd.R_told (Kd.R_old (ra_ HO1239) hb) (Kd.R_base ho1)) (Kd.R_base ho2)) (fun _ h_ => h_.1)); have n11_ := Aside0.mk (Kd.R_mono (Kd.R_told (Kd.R_told (Kd.R_old (ra_ HO1242) hb) (Kd.R_base ho1)) (Kd.R_base ho2)) (fun _ h_ => h_.1)); have n12_ := Aside0.mk (Kd.R_lower (Kd.R_new' (Kd.R_new' (Kd.R_new' (Kd.R_new' ho0 (Kd.R_lt (ra_ HO_1192000))) (Kd.R_lt (ra_ HO_1202000))) (Kd.R_lt (ra_ HO_1213000))) (Kd.R_lt (ra_ HO1236))) (below_size (bb4_ HB GE1170 GE1191 GE1201 GE1212))); have n13_ := Aside0.mk (Kd.R_lower (Kd.R_new' (Kd.R_new' (Kd.R_new' (Kd.R_new' (Kd.R_new' (Kd.R_new' (Kd.R_new' (Kd.R_new' ho1 (Kd.R_lt (ra_ HO_1192001))) (Kd.R_lt (ra_ HO_1192002))) (Kd.R_lt (ra_ HO_1202001))) (Kd.R_lt (ra_ HO_1202002))) (Kd.R_lt (ra_ HO_1213001))) (Kd.R_lt (ra_ HO_1213002))) (Kd.R_lt (ra_ HO1239))) (Kd.R_lt (ra_ HO1242))) (below_size (bb4_ HB GE1170 GE1191 GE1201 GE1212))); have n14_ := Aside0.mk (Kd.R_lower (Kd.R_new' (Kd.R_new' (Kd.R_new' (Kd.R_new' (Kd.R_new' (Kd.R_new' (Kd.R_new' (Kd.R_new' ho2 (Kd.R_lt (ra_ HO_1192001))) (Kd.R_lt (ra_ HO_1192002))) (Kd.R_lt (ra_ HO_1202001))) (Kd.R_lt (ra_ HO_1202002))) (Kd.R_lt (ra_ HO_1213001))) (Kd.R_lt (ra_ HO_1213002))) (Kd.R_lt (ra_ HO1239))) (Kd.R_lt (ra_ HO1242))) (below_size (bb4_ HB GE1170 GE1191 GE1201 GE1212))); have n15_ := Aside0.mk (lb_ BK1170 hb); have n16_ := Aside0.mk (lb_ BK1191 hb); have n17_ := Aside0.mk (lb_ BK1201 hb); have n18_ := Aside0.mk (lb_ BK1212 hb); have n19_ := Aside0.mk (below_step (bb4_ HB GE1170 GE1191 GE1201 GE1212) hb); clear HO_1192000; clear HO_1192001; clear HO_1192002; clear HO_1202000; clear HO_1202001; clear HO_1202002; clear HO_1213000; clear HO_1213001; clear HO_1213002; clear HO1236; clear HO1239; clear HO1242; clear BK1170; clear BK1191; clear BK1201; clear BK1212; clear HB; have HO_1192000 := n0_; have HO_1192001 := n1_; have HO_1192002 := n2_; have HO_1202000 := n3_; have HO_1202001 := n4_; have HO_1202002 := n5_; have HO_1213000 := n6_; have HO_1213001 := n7_; have HO_1213002 := n8_; have HO1236 := n9_; have HO1239 := n10_; have HO1242 := n11_; have HO1245 := n12_; have HO1248 := n13_; have HO1251 := n14_; have BK1170 := n15_; have BK1191 := n16_; have BK1201 := n17_; have BK1212 := n18_; have HB := n19_; clear n0_ n1_ n2_ n3_ n4_ n5_ n6_ n7_ n8_ n9_ n10_ n11_ n12_ n13_ n14_ n15_ n16_ n17_ n18_ n19_; (try clear hb); (try clear hb2); (try clear hk); (try clear hi); (try clear ho0); (try clear ho1); (try clear ho2)) | ((with_reducible refine gate_dst (N := 14) rfl ?_); refine box_event ?hg (N := 14) ?hd (cs := #[.slice none 0 0, .slice none 0 0, .slice none 0 0]) (t := 35) ?hr ?_; (case hd => rfl); (case hg => rfl); (case hr => first | (go_simp; done) | (go_simp; rfl)); intro gb1253 hg w123 hbox hb; have n0_ := Aside0.mk (Kd.R_below (ra_ HO_1192000) hb); have n1_ := Aside0.mk (Kd.R_below (ra_ HO_1192001) hb); have n2_ := Aside0.mk (Kd.R_below (ra_ HO_1192002) hb); have n3_ := Aside0.mk (Kd.R_below (ra_ HO_1202000) hb); have n4_ := Aside0.mk (Kd.R_below (ra_ HO_1202001) hb); have n5_ := Aside0.mk (Kd.R_below (ra_ HO_1202002) hb); have n6_ := Aside0.mk (Kd.R_below (ra_ HO_1213000) hb); have n7_ := Aside0.mk (Kd.R_below (ra_ HO_1213001) hb); have n8_ := Aside0.mk (Kd.R_below (ra_ HO_1213002) hb); have n9_ := Aside0.mk (Kd.R_below (ra_ HO1236) hb); have n10_ := Aside0.mk (Kd.R_below (ra_ HO1239) hb); have n11_ := Aside0.mk (Kd.R_below (ra_ HO1242) hb); have n12_ := Aside0.mk (Kd.R_below (ra_ HO1245) hb); have n13_ := Aside0.mk (Kd.R_below (ra_ HO1248) hb); have n14_ := Aside0.mk (Kd.R_below (ra_ HO1251) hb); have n15_ := Aside0.mk (lb_ BK1170 hb); have n16_ := Aside0.mk (lb_ BK1191 hb); have n17_ := Aside0.mk (lb_ BK1201 hb); have n18_ := Aside0.mk (lb_ BK1212 hb); have n19_ := Aside0.mk (below_step (bb4_ HB GE1170 GE1191 GE1201 GE1212) hb); have n20_ := Aside0.mk (hbox); have n21_ := gy_ hg (bb4_ HB GE1170 GE1191 GE1201 GE1212); have n22_ := gy_ hg (bb4_ HB GE1170 GE1191 GE1201 GE1212); have n23_ := nl_ hg BK1170; have n24_ := ng_ hg BK1170; have n25_ := nl_ hg BK1191; have n26_ := ng_ hg BK1191; have n27_ := nl_ hg BK1201; have n28_ := ng_ hg BK1201; have n29_ := nl_ hg BK1212; have n30_ := ng_ hg BK1212; clear HO_1192000; clear HO_1192001; clear HO_1192002; clear HO_1202000; clear HO_1202001; clear HO_1202002; clear HO_1213000; clear HO_1213001; clear HO_1213002; clear HO1236; clear HO1239; clear HO1242; clear HO1245; clear HO1248; clear HO1251; clear BK1170; clear BK1191; clear BK1201; clear BK1212; clear HB; have HO_1192000 := n0_; have HO_1192001 := n1_; have HO_1192002 := n2_; have HO_1202000 := n3_; have HO_1202001 := n4_; have HO_1202002 := n5_; have HO_1213000 := n6_; have HO_1213001 := n7_; have HO_1213002 := n8_; have HO1236 := n9_; have HO1239 := n10_; have HO1242 := n11_; have HO1245 := n12_; have HO1248 := n13_; have HO1251 := n14_; have BK1170 := n15_; have BK1191 := n16_; have BK1201 := n17_; have BK1212 := n18_; have HB := n19_; have BK1253 := n20_; have GW1253 := n21_; have GE1253 := n22_; have NB1170_1253 := n23_; have NB1253_1170 := n24_; have NB1191_1253 := n25_; have NB1253_1191 := n26_; have NB1201_1253 := n27_; have NB1253_1201 := n28_; have NB1212_1253 := n29_; have NB1253_1212 := n30_; clear n0_ n1_ n2_ n3_ n4_ n5_ n6_ n7_ n8_ n9_ n10_ n11_ n12_ n13_ n14_ n15_ n16_ n17_ n18_ n19_ n20_ n21_ n22_ n23_ n24_ n25_ n26_ n27_ n28_ n29_ n30_; clear hb hbox hg; obtain ⟨Ao124, co124, eo124⟩ := Kd.R_slice HO1245.out; subst eo124; have hnb125 := NB1253_1170.out; have hnc125 := NB1170_1253.out; have hnb126 := NB1253_1191.out; have hnc126 := NB1191_1253.out; have hnb127 := NB1253_1201.out; have hnc127 := NB1201_1253.out; have hnb128 := NB1253_1212.out; have hnc128 := NB1212_1253.out; have hcz129_0 := cz0_ BK1253; have hcz129_1 := cz1_ BK1253; have hcz129_2 := cz2_ BK1253; have hfz129_0 := fz_ BK1253 0; have hfz129_1 := fz_ BK1253 1; have hfz129_2 := fz_ BK1253 2; obtain ⟨Ao130, co130, eo130⟩ := Kd.R_slice HO1248.out; subst eo130; obtain ⟨Ao131, co131, eo131⟩ := Kd.R_slice HO1251.out; subst eo131))
           (try simp only [Act.put, sA_, sB_, sC_])
           go_cut [92] (fun v92 wc => ∃ (kq : Nat) (x92_106 : Bool), v92 = .bool x92_106 ∧ Aside0 (laws_FnExactDeleteItem.j2 kq t1229 x92_106 t1230 t1231 t1232 = some r) ∧ Aside0 (kq ≤ kj68) ∧ Aside0 (Kd.R Kd.string 9 wc w.heap.size (fun k_ => some k_ ≠ ((.slice Ao31 t1225.length co31) : Value).ownBlock ∧ some k_ ≠ ((.slice Ao39 t1202.length co39) : Value).ownBlock ∧ some k_ ≠ ((.slice Ao124 t1243.length co124) : Value).ownBlock) (.slice Ao23 t1181.length co23) t1181) ∧ Aside0 (Kd.R k25 25 wc w.heap.size (fun k_ => some k_ ≠ ((.slice Ao27 t1187.length co27) : Value).ownBlock ∧ some k_ ≠ ((.slice Ao35 t1226.length co35) : Value).ownBlock ∧ some k_ ≠ ((.slice Ao36 t1227.length co36) : Value).ownBlock ∧ some k_ ≠ ((.slice Ao44 t1205.length co44) : Value).ownBlock ∧ some k_ ≠ ((.slice Ao45 t1208.length co45) : Value).ownBlock ∧ some k_ ≠ ((.slice Ao130 t1246.length co130) : Value).ownBlock ∧ some k_ ≠ ((.slice Ao131 t1249.length co131) : Value).ownBlock) (.slice Ao26 t1184.length co26) t1184) ∧ Aside0 (Kd.R k25 25 wc w.heap.size (fun k_ => some k_ ≠ ((.slice Ao26 t1184.length co26) : Value).ownBlock ∧ some k_ ≠ ((.slice Ao35 t1226.length co35) : Value).ownBlock ∧ some k_ ≠ ((.slice Ao36 t1227.length co36) : Value).ownBlock ∧ some k_ ≠ ((.slice Ao44 t1205.length co44) : Value).ownBlock ∧ some k_ ≠ ((.slice Ao45 t1208.length co45) : Value).ownBlock ∧ some k_ ≠ ((.slice Ao130 t1246.length co130) : Value).ownBlock ∧ some k_ ≠ ((.slice Ao131 t1249.length co131) : Value).ownBlock) (.slice Ao27 t1187.length co27) t1187) ∧ Aside0 (Kd.R Kd.string 9 wc w.heap.size (fun k_ => some k_ ≠ ((.slice Ao23 t1181.length co23) : Value).ownBlock ∧ some k_ ≠ ((.slice Ao39 t1202.length co39) : Value).ownBlock ∧ some k_ ≠ ((.slice Ao124 t1243.length co124) : Value).ownBlock) (.slice Ao31 t1225.length co31) t1225) ∧ Aside0 (Kd.R k25 25 wc w.heap.size (fun k_ => some k_ ≠ ((.slice Ao26 t1184.length co26) : Value).ownBlock ∧ some k_ ≠ ((.slice Ao27 t1187.length co27) : Value).ownBlock ∧ some k_ ≠ ((.slice Ao36 t1227.length co36) : Value).ownBlock ∧ some k_ ≠ ((.slice Ao44 t1205.length co44) : Value).ownBlock ∧ some k_ ≠ ((.slice Ao45 t1208.length co45) : Value).ownBlock ∧ some k_ ≠ ((.slice Ao130 t1246.length co130) : Value).ownBlock ∧ some k_ ≠ ((.slice Ao131 t1249.length co131) : Value).ownBlock) (.slice Ao35 t1226.length co35) t1226) ∧ Aside0 (Kd.R k25 25 wc w.heap.size (fun k_ => some k_ ≠ ((.slice Ao26 t1184.length co26) : Value).ownBlock ∧ some k_ ≠ ((.slice Ao27 t1187.length co27) : Value).ownBlock ∧ some k_ ≠ ((.slice Ao35 t1226.length co35) : Value).ownBlock ∧ some k_ ≠ ((.slice Ao44 t1205.length co44) : Value).ownBlock ∧ some k_ ≠ ((.slice Ao45 t1208.length co45) : Value).ownBlock ∧ some k_ ≠ ((.slice Ao130 t1246.length co130) : Value).ownBlock ∧ some k_ ≠ ((.slice Ao131 t1249.length co131) : Value).ownBlock) (.slice Ao36 t1227.length co36) t1227) ∧ Aside0 (Kd.R Kd.string 9 wc w.heap.size (fun k_ => some k_ ≠ ((.slice Ao23 t1181.length co23) : Value).ownBlock ∧ some k_ ≠ ((.slice Ao31 t1225.length co31) : Value).ownBlock ∧ some k_ ≠ ((.slice Ao124 t1243.length co124) : Value).ownBlock) (.slice Ao39 t1202.length co39) t1230) ∧ Aside0 (Kd.R k25 25 wc w.heap.size (fun k_ => some k_ ≠ ((.slice Ao26 t1184.length co26) : Value).ownBlock ∧ some k_ ≠ ((.slice Ao27 t1187.length co27) : Value).ownBlock ∧ some k_ ≠ ((.slice Ao35 t1226.length co35) : Value).ownBlock ∧ some k_ ≠ ((.slice Ao36 t1227.length co36) : Value).ownBlock ∧ some k_ ≠ ((.slice Ao45 t1208.length co45) : Value).ownBlock ∧ some k_ ≠ ((.slice Ao130 t1246.length co130) : Value).ownBlock ∧ some k_ ≠ ((.slice Ao131 t1249.length co131) : Value).ownBlock) (.slice Ao44 t1205.length co44) t1231) ∧ Aside0 (Kd.R k25 25 wc w.heap.size (fun k_ => some k_ ≠ ((.slice Ao26 t1184.length co26) : Value).ownBlock ∧ some k_ ≠ ((.slice Ao27 t1187.length co27) : Value).ownBlock ∧ some k_ ≠ ((.slice Ao35 t1226.length co35) : Value).ownBlock ∧ some k_ ≠ ((.slice Ao36 t1227.length co36) : Value).ownBlock ∧ some k_ ≠ ((.slice Ao44 t1205.length co44) : Value).ownBlock ∧ some k_ ≠ ((.slice Ao130 t1246.length co130) : Value).ownBlock ∧ some k_ ≠ ((.slice Ao131 t1249.length co131) : Value).ownBlock) (.slice Ao45 t1208.length co45) t1232) ∧ Aside0 (Kd.R Kd.string 9 wc w.heap.size (fun k_ => some k_ ≠ ((.slice Ao23 t1181.length co23) : Value).ownBlock ∧ some k_ ≠ ((.slice Ao31 t1225.length co31) : Value).ownBlock ∧ some k_ ≠ ((.slice Ao39 t1202.length co39) : Value).ownBlock) (.slice Ao124 t1243.length co124) t1243) ∧ Aside0 (Kd.R k25 25 wc w.heap.size (fun k_ => some k_ ≠ ((.slice Ao26 t1184.length co26) : Value).ownBlock ∧ some k_ ≠ ((.slice Ao27 t1187.length co27) : Value).ownBlock ∧ some k_ ≠ ((.slice Ao35 t1226.length co35) : Value).ownBlock ∧ some k_ ≠ ((.slice Ao36 t1227.length co36) : Value).ownBlock ∧ some k_ ≠ ((.slice Ao44 t1205.length co44) : Value).ownBlock ∧ some k_ ≠ ((.slice Ao45 t1208.length co45) : Value).ownBlock ∧ some k_ ≠ ((.slice Ao131 t1249.length co131) : Value).ownBlock) (.slice Ao130 t1246.length co130) t1246) ∧ Aside0 (Kd.R k25 25 wc w.heap.size (fun k_ => some k_ ≠ ((.slice Ao26 t1184.length co26) : Value).ownBlock ∧ some k_ ≠ ((.slice Ao27 t1187.length co27) : Value).ownBlock ∧ some k_ ≠ ((.slice Ao35 t1226.length co35) : Value).ownBlock ∧ some k_ ≠ ((.slice Ao36 t1227.length co36) : Value).ownBlock ∧ some k_ ≠ ((.slice Ao44 t1205.length co44) : Value).ownBlock ∧ some k_ ≠ ((.slice Ao45 t1208.length co45) : Value).ownBlock ∧ some k_ ≠ ((.slice Ao130 t1246.length co130) : Value).ownBlock) (.slice Ao131 t1249.length co131) t1249) ∧ Aside0 (wc.heap[gb1170]? = some (.cells #[(.slice A0_0 l0_0.length c0_0), (.slice A0_1 l0_1.length c0_1), (.slice A0_2 l0_2.length c0_2)] 45 (0, 0))) ∧ Aside0 (wc.heap[gb1191]? = some (.cells #[(.slice Ao23 t1181.length co23), (.slice Ao26 t1184.length co26), (.slice Ao27 t1187.length co27)] 35 (0, 0))) ∧ Aside0 (wc.heap[gb1201]? = some (.cells #[(.slice Ao31 t1225.length co31), (.slice Ao35 t1226.length co35), (.slice Ao36 t1227.length co36)] 35 (0, 0))) ∧ Aside0 (wc.heap[gb1212]? = some (.cells #[(.slice Ao39 t1202.length co39), (.slice Ao44 t1205.length co44), (.slice Ao45 t1208.length co45)] 35 (0, 0))) ∧ Aside0 (wc.heap[gb1253]? = some (.cells #[(.slice Ao124 t1243.length co124), (.slice Ao130 t1246.length co130), (.slice Ao131 t1249.length co131)] 35 (0, 0))) ∧ Aside0 (Below w.heap.size w wc))
           case first =>
            have H := HC107.out
            clear HC107
            replace H := Option.bind_eq_some_iff.mp H
            obtain ⟨t1254, A1320, H⟩ := H
            try dsimp only at H
            have A132 := Aside0.mk A1320
            clear A1320
            by_cases c133 : t1254 = true
            ·subst c133
             have H1 : (laws_FnExactDeleteItem.j2 kj68 t1229 (t1252 != t1190) t1230 t1231 t1232) = some r := by rw [if_pos rfl] at H; exact H
             clear H
             have H := H1
             clear H1
             have H' := Aside0.mk H
             clear H
             have hnb134 := NB1253_1170.out
             have hnc134 := NB1170_1253.out
             have hnb135 := NB1253_1191.out
             have hnc135 := NB1191_1253.out
             have hnb136 := NB1253_1201.out
             have hnc136 := NB1201_1253.out
             have hnb137 := NB1253_1212.out
             have hnc137 := NB1212_1253.out
             have hcz138_0 := cz0_ BK1253
             have hcz138_1 := cz1_ BK1253
             have hcz138_2 := cz2_ BK1253
             have hfz138_0 := fz_ BK1253 0
             have hfz138_1 := fz_ BK1253 1
             have hfz138_2 := fz_ BK1253 2
             have hnb139 := NB1191_1170.out
             have hnc139 := NB1170_1191.out
             have hnb140 := NB1191_1201.out
             have hnc140 := NB1201_1191.out
             have hnb141 := NB1191_1212.out
             have hnc141 := NB1212_1191.out
             have hcz142_0 := cz0_ BK1191
             have hcz142_1 := cz1_ BK1191
             have hcz142_2 := cz2_ BK1191
             have hfz142_0 := fz_ BK1191 0
             have hfz142_1 := fz_ BK1191 1
             have hfz142_2 := fz_ BK1191 2
             go_wp2_with (first | ((with_reducible refine gate_callee (f := 23) rfl ?_); refine goesL_ (some 86) rfl rfl Try.func23 (by kernel_rfl) rfl #[.agg #[.slice Ao124 t1243.length co124, .slice Ao130 t1246.length co130, .slice Ao131 t1249.length co131], .agg #[.slice Ao23 t1181.length co23, .slice Ao26 t1184.length co26, .slice Ao27 t1187.length co27]] rfl args_ ?_; (with_reducible refine (laws_eqDesk.calls kj68 _ _ t1243 _ _ t1246 _ _ t1249 _ _ t1181 _ _ t1184 _ _ t1187 true _ ?side1 ?side2 ?side3 ?side4 ?side5 ?side6 ?side7 ?side8 ?side9 ?side10 ?side11 ?side12 A132.out).mono ?_); (case side1 => refine (Kd.R_reads' (e := 9) (base := w.heap.size) (ok := fun k_ => ((((True ∧ some k_ ≠ (.slice Ao23 t1181.length co23 : Value).ownBlock) ∧ some k_ ≠ (.slice Ao31 t1225.length co31 : Value).ownBlock) ∧ some k_ ≠ (.slice Ao39 t1202.length co39 : Value).ownBlock) ∧ some k_ ≠ (.slice Ao119 t1234.length co119 : Value).ownBlock)) (n := t1243.length) (c := co124) ?_).2.2; exact (rf_ (fm_ (fr_ (fr_ (fr_ (ft_ HO1245 BK1253) 0 (.slice Ao124 t1243.length co124)) 1 (.slice Ao130 t1246.length co130)) 2 (.slice Ao131 t1249.length co131))))); (case side2 => exact (Kd.R_reads' HO1245.out).2.1); (case side3 => refine (Kd.R_reads' (e := 25) (base := w.heap.size) (ok := fun k_ => ((((((((some k_ ≠ (.slice Ao131 t1249.length co131 : Value).ownBlock ∧ some k_ ≠ (.slice Ao26 t1184.length co26 : Value).ownBlock) ∧ some k_ ≠ (.slice Ao27 t1187.length co27 : Value).ownBlock) ∧ some k_ ≠ (.slice Ao35 t1226.length co35 : Value).ownBlock) ∧ some k_ ≠ (.slice Ao36 t1227.length co36 : Value).ownBlock) ∧ some k_ ≠ (.slice Ao44 t1205.length co44 : Value).ownBlock) ∧ some k_ ≠ (.slice Ao45 t1208.length co45 : Value).ownBlock) ∧ some k_ ≠ (.slice Ao120 t1237.length co120 : Value).ownBlock) ∧ some k_ ≠ (.slice Ao121 t1240.length co121 : Value).ownBlock)) (n := t1246.length) (c := co130) ?_).2.2; exact (rf_ (fm_ (fr_ (fr_ (fr_ (ft_ HO1248 BK1253) 0 (.slice Ao124 t1243.length co124)) 1 (.slice Ao130 t1246.length co130)) 2 (.slice Ao131 t1249.length co131))))); (case side4 => exact (Kd.R_reads' HO1248.out).2.1); (case side5 => refine (Kd.R_reads' (e := 25) (base := w.heap.size) (ok := fun k_ => ((((((((some k_ ≠ (.slice Ao130 t1246.length co130 : Value).ownBlock ∧ some k_ ≠ (.slice Ao26 t1184.length co26 : Value).ownBlock) ∧ some k_ ≠ (.slice Ao27 t1187.length co27 : Value).ownBlock) ∧ some k_ ≠ (.slice Ao35 t1226.length co35 : Value).ownBlock) ∧ some k_ ≠ (.slice Ao36 t1227.length co36 : Value).ownBlock) ∧ some k_ ≠ (.slice Ao44 t1205.length co44 : Value).ownBlock) ∧ some k_ ≠ (.slice Ao45 t1208.length co45 : Value).ownBlock) ∧ some k_ ≠ (.slice Ao120 t1237.length co120 : Value).ownBlock) ∧ some k_ ≠ (.slice Ao121 t1240.length co121 : Value).ownBlock)) (n := t1249.length) (c := co131) ?_).2.2; exact (rf_ (fm_ (fr_ (fr_ (fr_ (ft_ HO1251 BK1253) 0 (.slice Ao124 t1243.length co124)) 1 (.slice Ao130 t1246.length co130)) 2 (.slice Ao131 t1249.length co131))))); (case side6 => exact (Kd.R_reads' HO1251.out).2.1); (case side7 => refine (Kd.R_reads' (e := 9) (base := w.heap.size) (ok := fun k_ => (((some k_ ≠ (.slice Ao31 t1225.length co31 : Value).ownBlock ∧ some k_ ≠ (.slice Ao39 t1202.length co39 : Value).ownBlock) ∧ some k_ ≠ (.slice Ao119 t1234.length co119 : Value).ownBlock) ∧ some k_ ≠ (.slice Ao124 t1243.length co124 : Value).ownBlock)) (n := t1181.length) (c := co23) ?_).2.2; exact (rf_ (fm_ (fr_ (fr_ (fr_ (ft_ HO_1192000 BK1253) 0 (.slice Ao124 t1243.length co124)) 1 (.slice Ao130 t1246.length co130)) 2 (.slice Ao131 t1249.length co131))))); (case side8 => exact (Kd.R_reads' HO_1192000.out).2.1); (case side9 => refine (Kd.R_reads' (e := 25) (base := w.heap.size) (ok := fun k_ => (((((some k_ ≠ (.slice Ao27 t1187.length co27 : Value).ownBlock ∧ (some k_ ≠ (.slice Ao35 t1226.length co35 : Value).ownBlock ∧ (some k_ ≠ (.slice Ao36 t1227.length co36 : Value).ownBlock ∧ (some k_ ≠ (.slice Ao44 t1205.length co44 : Value).ownBlock ∧ some k_ ≠ (.slice Ao45 t1208.length co45 : Value).ownBlock)))) ∧ some k_ ≠ (.slice Ao120 t1237.length co120 : Value).ownBlock) ∧ some k_ ≠ (.slice Ao121 t1240.length co121 : Value).ownBlock) ∧ some k_ ≠ (.slice Ao130 t1246.length co130 : Value).ownBlock) ∧ some k_ ≠ (.slice Ao131 t1249.length co131 : Value).ownBlock)) (n := t1184.length) (c := co26) ?_).2.2; exact (rf_ (fm_ (fr_ (fr_ (fr_ (ft_ HO_1192001 BK1253) 0 (.slice Ao124 t1243.length co124)) 1 (.slice Ao130 t1246.length co130)) 2 (.slice Ao131 t1249.length co131))))); (case side10 => exact (Kd.R_reads' HO_1192001.out).2.1); (case side11 => refine (Kd.R_reads' (e := 25) (base := w.heap.size) (ok := fun k_ => (((((some k_ ≠ (.slice Ao26 t1184.length co26 : Value).ownBlock ∧ (some k_ ≠ (.slice Ao35 t1226.length co35 : Value).ownBlock ∧ (some k_ ≠ (.slice Ao36 t1227.length co36 : Value).ownBlock ∧ (some k_ ≠ (.slice Ao44 t1205.length co44 : Value).ownBlock ∧ some k_ ≠ (.slice Ao45 t1208.length co45 : Value).ownBlock)))) ∧ some k_ ≠ (.slice Ao120 t1237.length co120 : Value).ownBlock) ∧ some k_ ≠ (.slice Ao121 t1240.length co121 : Value).ownBlock) ∧ some k_ ≠ (.slice Ao130 t1246.length co130 : Value).ownBlock) ∧ some k_ ≠ (.slice Ao131 t1249.length co131 : Value).ownBlock)) (n := t1187.length) (c := co27) ?_).2.2; exact (rf_ (fm_ (fr_ (fr_ (fr_ (ft_ HO_1192002 BK1253) 0 (.slice Ao124 t1243.length co124)) 1 (.slice Ao130 t1246.length co130)) 2 (.slice Ao131 t1249.length co131))))); (case side12 => exact (Kd.R_reads' HO_1192002.out).2.1); rintro e w143 ⟨rfl, hb⟩; refine ⟨_, rfl, ?_⟩; have n0_ := Aside0.mk (Kd.R_below (rf_ (fm_ (fr_ (fr_ (fr_ (ft_ HO_1192000 BK1253) 0 (.slice Ao124 t1243.length co124)) 1 (.slice Ao130 t1246.length co130)) 2 (.slice Ao131 t1249.length co131)))) hb); have n1_ := Aside0.mk (Kd.R_below (rf_ (fm_ (fr_ (fr_ (fr_ (ft_ HO_1192001 BK1253) 0 (.slice Ao124 t1243.length co124)) 1 (.slice Ao130 t1246.length co130)) 2 (.slice Ao131 t1249.length co131)))) hb); have n2_ := Aside0.mk (Kd.R_below (rf_ (fm_ (fr_ (fr_ (fr_ (ft_ HO_1192002 BK1253) 0 (.slice Ao124 t1243.length co124)) 1 (.slice Ao130 t1246.length co130)) 2 (.slice Ao131 t1249.length co131)))) hb); have n3_ := Aside0.mk (Kd.R_below (rf_ (fm_ (fr_ (fr_ (fr_ (ft_ HO_1202000 BK1253) 0 (.slice Ao124 t1243.length co124)) 1 (.slice Ao130 t1246.length co130)) 2 (.slice Ao131 t1249.length co131)))) hb); have n4_ := Aside0.mk (Kd.R_below (rf_ (fm_ (fr_ (fr_ (fr_ (ft_ HO_1202001 BK1253) 0 (.slice Ao124 t1243.length co124)) 1 (.slice Ao130 t1246.length co130)) 2 (.slice Ao131 t1249.length co131)))) hb); have n5_ := Aside0.mk (Kd.R_below (rf_ (fm_ (fr_ (fr_ (fr_ (ft_ HO_1202002 BK1253) 0 (.slice Ao124 t1243.length co124)) 1 (.slice Ao130 t1246.length co130)) 2 (.slice Ao131 t1249.length co131)))) hb); have n6_ := Aside0.mk (Kd.R_below (rf_ (fm_ (fr_ (fr_ (fr_ (ft_ HO_1213000 BK1253) 0 (.slice Ao124 t1243.length co124)) 1 (.slice Ao130 t1246.length co130)) 2 (.slice Ao131 t1249.length co131)))) hb); have n7_ := Aside0.mk (Kd.R_below (rf_ (fm_ (fr_ (fr_ (fr_ (ft_ HO_1213001 BK1253) 0 (.slice Ao124 t1243.length co124)) 1 (.slice Ao130 t1246.length co130)) 2 (.slice Ao131 t1249.length co131)))) hb); have n8_ := Aside0.mk (Kd.R_below (rf_ (fm_ (fr_ (fr_ (fr_ (ft_ HO_1213002 BK1253) 0 (.slice Ao124 t1243.length co124)) 1 (.slice Ao130 t1246.length co130)) 2 (.slice Ao131 t1249.length co131)))) hb); have n9_ := Aside0.mk (Kd.R_below (rf_ (fm_ (fr_ (fr_ (fr_ (ft_ HO1236 BK1253) 0 (.slice Ao124 t1243.length co124)) 1 (.slice Ao130 t1246.length co130)) 2 (.slice Ao131 t1249.length co131)))) hb); have n10_ := Aside0.mk (Kd.R_below (rf_ (fm_ (fr_ (fr_ (fr_ (ft_ HO1239 BK1253) 0 (.slice Ao124 t1243.length co124)) 1 (.slice Ao130 t1246.length co130)) 2 (.slice Ao131 t1249.length co131)))) hb); have n11_ := Aside0.mk (Kd.R_below (rf_ (fm_ (fr_ (fr_ (fr_ (ft_ HO1242 BK1253) 0 (.slice Ao124 t1243.length co124)) 1 (.slice Ao130 t1246.length co130)) 2 (.slice Ao131 t1249.length co131)))) hb); have n12_ := Aside0.mk (Kd.R_below (rf_ (fm_ (fr_ (fr_ (fr_ (ft_ HO1245 BK1253) 0 (.slice Ao124 t1243.length co124)) 1 (.slice Ao130 t1246.length co130)) 2 (.slice Ao131 t1249.length co131)))) hb); have n13_ := Aside0.mk (Kd.R_below (rf_ (fm_ (fr_ (fr_ (fr_ (ft_ HO1248 BK1253) 0 (.slice Ao124 t1243.length co124)) 1 (.slice Ao130 t1246.length co130)) 2 (.slice Ao131 t1249.length co131)))) hb); have n14_ := Aside0.mk (Kd.R_below (rf_ (fm_ (fr_ (fr_ (fr_ (ft_ HO1251 BK1253) 0 (.slice Ao124 t1243.length co124)) 1 (.slice Ao130 t1246.length co130)) 2 (.slice Ao131 t1249.length co131)))) hb); have n15_ := Aside0.mk (blk_below (g := gb1170) (o := .cells #[.slice A0_0 l0_0.length c0_0, .slice A0_1 l0_1.length c0_1, .slice A0_2 l0_2.length c0_2] 45 (0, 0)) (by (with_reducible repeat (first | apply lN_ | apply lD_ | apply lA_)); refine blk_far ?_ NB1170_1253.out _; (with_reducible repeat (first | apply lN_ | apply lD_ | apply lA_)); refine blk_far ?_ NB1170_1253.out _; (with_reducible repeat (first | apply lN_ | apply lD_ | apply lA_)); refine blk_far ?_ NB1170_1253.out _; (with_reducible repeat (first | apply lN_ | apply lD_ | apply lA_)); exact BK1170.out) hb); have n16_ := Aside0.mk (blk_below (g := gb1191) (o := .cells #[.slice Ao23 t1181.length co23, .slice Ao26 t1184.length co26, .slice Ao27 t1187.length co27] 35 (0, 0)) (by (with_reducible repeat (first | apply lN_ | apply lD_ | apply lA_)); refine blk_far ?_ NB1191_1253.out _; (with_reducible repeat (first | apply lN_ | apply lD_ | apply lA_)); refine blk_far ?_ NB1191_1253.out _; (with_reducible repeat (first | apply lN_ | apply lD_ | apply lA_)); refine blk_far ?_ NB1191_1253.out _; (with_reducible repeat (first | apply lN_ | apply lD_ | apply lA_)); exact BK1191.out) hb); have n17_ := Aside0.mk (blk_below (g := gb1201) (o := .cells #[.slice Ao31 t1225.length co31, .slice Ao35 t1226.length co35, .slice Ao36 t1227.length co36] 35 (0, 0)) (by (with_reducible repeat (first | apply lN_ | apply lD_ | apply lA_)); refine blk_far ?_ NB1201_1253.out _; (with_reducible repeat (first | apply lN_ | apply lD_ | apply lA_)); refine blk_far ?_ NB1201_1253.out _; (with_reducible repeat (first | apply lN_ | apply lD_ | apply lA_)); refine blk_far ?_ NB1201_1253.out _; (with_reducible repeat (first | apply lN_ | apply lD_ | apply lA_)); exact BK1201.out) hb); have n18_ := Aside0.mk (blk_below (g := gb1212) (o := .cells #[.slice Ao39 t1202.length co39, .slice Ao44 t1205.length co44, .slice Ao45 t1208.length co45] 35 (0, 0)) (by (with_reducible repeat (first | apply lN_ | apply lD_ | apply lA_)); refine blk_far ?_ NB1212_1253.out _; (with_reducible repeat (first | apply lN_ | apply lD_ | apply lA_)); refine blk_far ?_ NB1212_1253.out _; (with_reducible repeat (first | apply lN_ | apply lD_ | apply lA_)); refine blk_far ?_ NB1212_1253.out _; (with_reducible repeat (first | apply lN_ | apply lD_ | apply lA_)); exact BK1212.out) hb); have n19_ := Aside0.mk (blk_below (g := gb1253) (o := .cells #[.slice Ao124 t1243.length co124, .slice Ao130 t1246.length co130, .slice Ao131 t1249.length co131] 35 (0, 0)) (by (with_reducible repeat (first | apply lN_ | apply lD_ | apply lA_)); refine blk_put (cs := #[.slice Ao124 t1243.length co124, .slice Ao130 t1246.length co130, .slice none 0 0]) ?_ 2 _ rfl; (with_reducible repeat (first | apply lN_ | apply lD_ | apply lA_)); refine blk_put (cs := #[.slice Ao124 t1243.length co124, .slice none 0 0, .slice none 0 0]) ?_ 1 _ rfl; (with_reducible repeat (first | apply lN_ | apply lD_ | apply lA_)); refine blk_put (cs := #[.slice none 0 0, .slice none 0 0, .slice none 0 0]) ?_ 0 _ rfl; (with_reducible repeat (first | apply lN_ | apply lD_ | apply lA_)); exact BK1253.out) hb); have n20_ := Aside0.mk (below_step (by repeat (first | (with_reducible first | exact HB.out | apply bA_ | apply bN_ | apply bD_ | refine bS_ ?_ GE1170.out | refine bS_ ?_ GE1191.out | refine bS_ ?_ GE1201.out | refine bS_ ?_ GE1212.out | refine bS_ ?_ GE1253.out) | exact HB.out)) hb); clear HO_1192000; clear HO_1192001; clear HO_1192002; clear HO_1202000; clear HO_1202001; clear HO_1202002; clear HO_1213000; clear HO_1213001; clear HO_1213002; clear HO1236; clear HO1239; clear HO1242; clear HO1245; clear HO1248; clear HO1251; clear BK1170; clear BK1191; clear BK1201; clear BK1212; clear BK1253; clear HB; have HO_1192000 := n0_; have HO_1192001 := n1_; have HO_1192002 := n2_; have HO_1202000 := n3_; have HO_1202001 := n4_; have HO_1202002 := n5_; have HO_1213000 := n6_; have HO_1213001 := n7_; have HO_1213002 := n8_; have HO1236 := n9_; have HO1239 := n10_; have HO1242 := n11_; have HO1245 := n12_; have HO1248 := n13_; have HO1251 := n14_; have BK1170 := n15_; have BK1191 := n16_; have BK1201 := n17_; have BK1212 := n18_; have BK1253 := n19_; have HB := n20_; clear n0_ n1_ n2_ n3_ n4_ n5_ n6_ n7_ n8_ n9_ n10_ n11_ n12_ n13_ n14_ n15_ n16_ n17_ n18_ n19_ n20_; (try clear hb); (try clear hb2); (try clear hk); (try clear hi)))
             go_meet
             case rel => exact ⟨_, ((t1252 != t1190)), (by first | rfl | (simp; done) | (simp [*]; done)), H', ⟨by have := HJ11.out; have := HJ68.out; first | omega | exact Nat.le_refl _⟩, ⟨by (try simp only [hl1202000_68]); (try simp only [hl1202001_68]); (try simp only [hl1202002_68]); (with_reducible repeat (first | apply rA_ | apply rN_ | apply rD_)); exact Kd.R_mono HO_1192000.out (fun _ hk => ⟨hk.1.1.1, ⟨hk.1.1.2, hk.2⟩⟩)⟩, ⟨by (try simp only [hl1202000_68]); (try simp only [hl1202001_68]); (try simp only [hl1202002_68]); (with_reducible repeat (first | apply rA_ | apply rN_ | apply rD_)); exact Kd.R_mono HO_1192001.out (fun _ hk => ⟨hk.1.1.1.1.1, ⟨hk.1.1.1.1.2.1, ⟨hk.1.1.1.1.2.2.1, ⟨hk.1.1.1.1.2.2.2.1, ⟨hk.1.1.1.1.2.2.2.2, ⟨hk.1.2, hk.2⟩⟩⟩⟩⟩⟩)⟩, ⟨by (try simp only [hl1202000_68]); (try simp only [hl1202001_68]); (try simp only [hl1202002_68]); (with_reducible repeat (first | apply rA_ | apply rN_ | apply rD_)); exact Kd.R_mono HO_1192002.out (fun _ hk => ⟨hk.1.1.1.1.1, ⟨hk.1.1.1.1.2.1, ⟨hk.1.1.1.1.2.2.1, ⟨hk.1.1.1.1.2.2.2.1, ⟨hk.1.1.1.1.2.2.2.2, ⟨hk.1.2, hk.2⟩⟩⟩⟩⟩⟩)⟩, ⟨by (try simp only [hl1202000_68]); (try simp only [hl1202001_68]); (try simp only [hl1202002_68]); (with_reducible repeat (first | apply rA_ | apply rN_ | apply rD_)); exact Kd.R_mono HO_1202000.out (fun _ hk => ⟨hk.1.1.1, ⟨hk.1.1.2, hk.2⟩⟩)⟩, ⟨by (try simp only [hl1202000_68]); (try simp only [hl1202001_68]); (try simp only [hl1202002_68]); (with_reducible repeat (first | apply rA_ | apply rN_ | apply rD_)); exact Kd.R_mono HO_1202001.out (fun _ hk => ⟨hk.1.1.1.1.1, ⟨hk.1.1.1.1.2.1, ⟨hk.1.1.1.1.2.2.1, ⟨hk.1.1.1.1.2.2.2.1, ⟨hk.1.1.1.1.2.2.2.2, ⟨hk.1.2, hk.2⟩⟩⟩⟩⟩⟩)⟩, ⟨by (try simp only [hl1202000_68]); (try simp only [hl1202001_68]); (try simp only [hl1202002_68]); (with_reducible repeat (first | apply rA_ | apply rN_ | apply rD_)); exact Kd.R_mono HO_1202002.out (fun _ hk => ⟨hk.1.1.1.1.1, ⟨hk.1.1.1.1.2.1, ⟨hk.1.1.1.1.2.2.1, ⟨hk.1.1.1.1.2.2.2.1, ⟨hk.1.1.1.1.2.2.2.2, ⟨hk.1.2, hk.2⟩⟩⟩⟩⟩⟩)⟩, ⟨by (try simp only [hl1202000_68]); (try simp only [hl1202001_68]); (try simp only [hl1202002_68]); (with_reducible repeat (first | apply rA_ | apply rN_ | apply rD_)); exact Kd.R_mono HO_1213000.out (fun _ hk => ⟨hk.1.1.1, ⟨hk.1.1.2, hk.2⟩⟩)⟩, ⟨by (try simp only [hl1202000_68]); (try simp only [hl1202001_68]); (try simp only [hl1202002_68]); (with_reducible repeat (first | apply rA_ | apply rN_ | apply rD_)); exact Kd.R_mono HO_1213001.out (fun _ hk => ⟨hk.1.1.1.1.1, ⟨hk.1.1.1.1.2.1, ⟨hk.1.1.1.1.2.2.1, ⟨hk.1.1.1.1.2.2.2.1, ⟨hk.1.1.1.1.2.2.2.2, ⟨hk.1.2, hk.2⟩⟩⟩⟩⟩⟩)⟩, ⟨by (try simp only [hl1202000_68]); (try simp only [hl1202001_68]); (try simp only [hl1202002_68]); (with_reducible repeat (first | apply rA_ | apply rN_ | apply rD_)); exact Kd.R_mono HO_1213002.out (fun _ hk => ⟨hk.1.1.1.1.1, ⟨hk.1.1.1.1.2.1, ⟨hk.1.1.1.1.2.2.1, ⟨hk.1.1.1.1.2.2.2.1, ⟨hk.1.1.1.1.2.2.2.2, ⟨hk.1.2, hk.2⟩⟩⟩⟩⟩⟩)⟩, ⟨by (try simp only [hl1202000_68]); (try simp only [hl1202001_68]); (try simp only [hl1202002_68]); (with_reducible repeat (first | apply rA_ | apply rN_ | apply rD_)); exact Kd.R_mono HO1245.out (fun _ hk => ⟨hk.1.1.1.2, ⟨hk.1.1.2, hk.1.2⟩⟩)⟩, ⟨by (try simp only [hl1202000_68]); (try simp only [hl1202001_68]); (try simp only [hl1202002_68]); (with_reducible repeat (first | apply rA_ | apply rN_ | apply rD_)); exact Kd.R_mono HO1248.out (fun _ hk => ⟨hk.1.1.1.1.1.1.1.2, ⟨hk.1.1.1.1.1.1.2, ⟨hk.1.1.1.1.1.2, ⟨hk.1.1.1.1.2, ⟨hk.1.1.1.2, ⟨hk.1.1.2, hk.1.1.1.1.1.1.1.1⟩⟩⟩⟩⟩⟩)⟩, ⟨by (try simp only [hl1202000_68]); (try simp only [hl1202001_68]); (try simp only [hl1202002_68]); (with_reducible repeat (first | apply rA_ | apply rN_ | apply rD_)); exact Kd.R_mono HO1251.out (fun _ hk => ⟨hk.1.1.1.1.1.1.1.2, ⟨hk.1.1.1.1.1.1.2, ⟨hk.1.1.1.1.1.2, ⟨hk.1.1.1.1.2, ⟨hk.1.1.1.2, ⟨hk.1.1.2, hk.1.1.1.1.1.1.1.1⟩⟩⟩⟩⟩⟩)⟩, ⟨by (try simp only [hl1202000_68]); (try simp only [hl1202001_68]); (try simp only [hl1202002_68]); (with_reducible repeat (first | apply lN_ | apply lD_ | apply lA_)); exact BK1170.out⟩, ⟨by (try simp only [hl1202000_68]); (try simp only [hl1202001_68]); (try simp only [hl1202002_68]); (with_reducible repeat (first | apply lN_ | apply lD_ | apply lA_)); exact BK1191.out⟩, ⟨by (try simp only [hl1202000_68]); (try simp only [hl1202001_68]); (try simp only [hl1202002_68]); (with_reducible repeat (first | apply lN_ | apply lD_ | apply lA_)); exact BK1201.out⟩, ⟨by (try simp only [hl1202000_68]); (try simp only [hl1202001_68]); (try simp only [hl1202002_68]); (with_reducible repeat (first | apply lN_ | apply lD_ | apply lA_)); exact BK1212.out⟩, ⟨by (try simp only [hl1202000_68]); (try simp only [hl1202001_68]); (try simp only [hl1202002_68]); (with_reducible repeat (first | apply lN_ | apply lD_ | apply lA_)); exact BK1253.out⟩, ⟨by repeat (first | (with_reducible first | exact HB.out | apply bA_ | apply bN_ | apply bD_ | refine bS_ ?_ GE1170.out | refine bS_ ?_ GE1191.out | refine bS_ ?_ GE1201.out | refine bS_ ?_ GE1212.out | refine bS_ ?_ GE1253.out) | exact HB.out)⟩⟩
            ·replace c133 := Bool.eq_false_iff.mpr c133
             subst c133
             have H1 : (laws_FnExactDeleteItem.j2 kj68 t1229 true t1230 t1231 t1232) = some r := by rw [if_neg (show ¬ (false = true) by decide)] at H; exact H
             clear H
             have H := H1
             clear H1
             have H' := Aside0.mk H
             clear H
             have hnb144 := NB1253_1170.out
             have hnc144 := NB1170_1253.out
             have hnb145 := NB1253_1191.out
             have hnc145 := NB1191_1253.out
             have hnb146 := NB1253_1201.out
             have hnc146 := NB1201_1253.out
             have hnb147 := NB1253_1212.out
             have hnc147 := NB1212_1253.out
             have hcz148_0 := cz0_ BK1253
             have hcz148_1 := cz1_ BK1253
             have hcz148_2 := cz2_ BK1253
             have hfz148_0 := fz_ BK1253 0
             have hfz148_1 := fz_ BK1253 1
             have hfz148_2 := fz_ BK1253 2
             have hnb149 := NB1191_1170.out
             have hnc149 := NB1170_1191.out
             have hnb150 := NB1191_1201.out
             have hnc150 := NB1201_1191.out
             have hnb151 := NB1191_1212.out
             have hnc151 := NB1212_1191.out
             have hcz152_0 := cz0_ BK1191
             have hcz152_1 := cz1_ BK1191
             have hcz152_2 := cz2_ BK1191
             have hfz152_0 := fz_ BK1191 0
             have hfz152_1 := fz_ BK1191 1
             have hfz152_2 := fz_ BK1191 2
             go_wp2_with (first | ((with_reducible refine gate_callee (f := 23) rfl ?_); refine goesL_ (some 86) rfl rfl Try.func23 (by kernel_rfl) rfl #[.agg #[.slice Ao124 t1243.length co124, .slice Ao130 t1246.length co130, .slice Ao131 t1249.length co131], .agg #[.slice Ao23 t1181.length co23, .slice Ao26 t1184.length co26, .slice Ao27 t1187.length co27]] rfl args_ ?_; (with_reducible refine (laws_eqDesk.calls kj68 _ _ t1243 _ _ t1246 _ _ t1249 _ _ t1181 _ _ t1184 _ _ t1187 false _ ?side1 ?side2 ?side3 ?side4 ?side5 ?side6 ?side7 ?side8 ?side9 ?side10 ?side11 ?side12 A132.out).mono ?_); (case side1 => refine (Kd.R_reads' (e := 9) (base := w.heap.size) (ok := fun k_ => ((((True ∧ some k_ ≠ (.slice Ao23 t1181.length co23 : Value).ownBlock) ∧ some k_ ≠ (.slice Ao31 t1225.length co31 : Value).ownBlock) ∧ some k_ ≠ (.slice Ao39 t1202.length co39 : Value).ownBlock) ∧ some k_ ≠ (.slice Ao119 t1234.length co119 : Value).ownBlock)) (n := t1243.length) (c := co124) ?_).2.2; exact (rf_ (fm_ (fr_ (fr_ (fr_ (ft_ HO1245 BK1253) 0 (.slice Ao124 t1243.length co124)) 1 (.slice Ao130 t1246.length co130)) 2 (.slice Ao131 t1249.length co131))))); (case side2 => exact (Kd.R_reads' HO1245.out).2.1); (case side3 => refine (Kd.R_reads' (e := 25) (base := w.heap.size) (ok := fun k_ => ((((((((some k_ ≠ (.slice Ao131 t1249.length co131 : Value).ownBlock ∧ some k_ ≠ (.slice Ao26 t1184.length co26 : Value).ownBlock) ∧ some k_ ≠ (.slice Ao27 t1187.length co27 : Value).ownBlock) ∧ some k_ ≠ (.slice Ao35 t1226.length co35 : Value).ownBlock) ∧ some k_ ≠ (.slice Ao36 t1227.length co36 : Value).ownBlock) ∧ some k_ ≠ (.slice Ao44 t1205.length co44 : Value).ownBlock) ∧ some k_ ≠ (.slice Ao45 t1208.length co45 : Value).ownBlock) ∧ some k_ ≠ (.slice Ao120 t1237.length co120 : Value).ownBlock) ∧ some k_ ≠ (.slice Ao121 t1240.length co121 : Value).ownBlock)) (n := t1246.length) (c := co130) ?_).2.2; exact (rf_ (fm_ (fr_ (fr_ (fr_ (ft_ HO1248 BK1253) 0 (.slice Ao124 t1243.length co124)) 1 (.slice Ao130 t1246.length co130)) 2 (.slice Ao131 t1249.length co131))))); (case side4 => exact (Kd.R_reads' HO1248.out).2.1); (case side5 => refine (Kd.R_reads' (e := 25) (base := w.heap.size) (ok := fun k_ => ((((((((some k_ ≠ (.slice Ao130 t1246.length co130 : Value).ownBlock ∧ some k_ ≠ (.slice Ao26 t1184.length co26 : Value).ownBlock) ∧ some k_ ≠ (.slice Ao27 t1187.length co27 : Value).ownBlock) ∧ some k_ ≠ (.slice Ao35 t1226.length co35 : Value).ownBlock) ∧ some k_ ≠ (.slice Ao36 t1227.length co36 : Value).ownBlock) ∧ some k_ ≠ (.slice Ao44 t1205.length co44 : Value).ownBlock) ∧ some k_ ≠ (.slice Ao45 t1208.length co45 : Value).ownBlock) ∧ some k_ ≠ (.slice Ao120 t1237.length co120 : Value).ownBlock) ∧ some k_ ≠ (.slice Ao121 t1240.length co121 : Value).ownBlock)) (n := t1249.length) (c := co131) ?_).2.2; exact (rf_ (fm_ (fr_ (fr_ (fr_ (ft_ HO1251 BK1253) 0 (.slice Ao124 t1243.length co124)) 1 (.slice Ao130 t1246.length co130)) 2 (.slice Ao131 t1249.length co131))))); (case side6 => exact (Kd.R_reads' HO1251.out).2.1); (case side7 => refine (Kd.R_reads' (e := 9) (base := w.heap.size) (ok := fun k_ => (((some k_ ≠ (.slice Ao31 t1225.length co31 : Value).ownBlock ∧ some k_ ≠ (.slice Ao39 t1202.length co39 : Value).ownBlock) ∧ some k_ ≠ (.slice Ao119 t1234.length co119 : Value).ownBlock) ∧ some k_ ≠ (.slice Ao124 t1243.length co124 : Value).ownBlock)) (n := t1181.length) (c := co23) ?_).2.2; exact (rf_ (fm_ (fr_ (fr_ (fr_ (ft_ HO_1192000 BK1253) 0 (.slice Ao124 t1243.length co124)) 1 (.slice Ao130 t1246.length co130)) 2 (.slice Ao131 t1249.length co131))))); (case side8 => exact (Kd.R_reads' HO_1192000.out).2.1); (case side9 => refine (Kd.R_reads' (e := 25) (base := w.heap.size) (ok := fun k_ => (((((some k_ ≠ (.slice Ao27 t1187.length co27 : Value).ownBlock ∧ (some k_ ≠ (.slice Ao35 t1226.length co35 : Value).ownBlock ∧ (some k_ ≠ (.slice Ao36 t1227.length co36 : Value).ownBlock ∧ (some k_ ≠ (.slice Ao44 t1205.length co44 : Value).ownBlock ∧ some k_ ≠ (.slice Ao45 t1208.length co45 : Value).ownBlock)))) ∧ some k_ ≠ (.slice Ao120 t1237.length co120 : Value).ownBlock) ∧ some k_ ≠ (.slice Ao121 t1240.length co121 : Value).ownBlock) ∧ some k_ ≠ (.slice Ao130 t1246.length co130 : Value).ownBlock) ∧ some k_ ≠ (.slice Ao131 t1249.length co131 : Value).ownBlock)) (n := t1184.length) (c := co26) ?_).2.2; exact (rf_ (fm_ (fr_ (fr_ (fr_ (ft_ HO_1192001 BK1253) 0 (.slice Ao124 t1243.length co124)) 1 (.slice Ao130 t1246.length co130)) 2 (.slice Ao131 t1249.length co131))))); (case side10 => exact (Kd.R_reads' HO_1192001.out).2.1); (case side11 => refine (Kd.R_reads' (e := 25) (base := w.heap.size) (ok := fun k_ => (((((some k_ ≠ (.slice Ao26 t1184.length co26 : Value).ownBlock ∧ (some k_ ≠ (.slice Ao35 t1226.length co35 : Value).ownBlock ∧ (some k_ ≠ (.slice Ao36 t1227.length co36 : Value).ownBlock ∧ (some k_ ≠ (.slice Ao44 t1205.length co44 : Value).ownBlock ∧ some k_ ≠ (.slice Ao45 t1208.length co45 : Value).ownBlock)))) ∧ some k_ ≠ (.slice Ao120 t1237.length co120 : Value).ownBlock) ∧ some k_ ≠ (.slice Ao121 t1240.length co121 : Value).ownBlock) ∧ some k_ ≠ (.slice Ao130 t1246.length co130 : Value).ownBlock) ∧ some k_ ≠ (.slice Ao131 t1249.length co131 : Value).ownBlock)) (n := t1187.length) (c := co27) ?_).2.2; exact (rf_ (fm_ (fr_ (fr_ (fr_ (ft_ HO_1192002 BK1253) 0 (.slice Ao124 t1243.length co124)) 1 (.slice Ao130 t1246.length co130)) 2 (.slice Ao131 t1249.length co131))))); (case side12 => exact (Kd.R_reads' HO_1192002.out).2.1); rintro e w153 ⟨rfl, hb⟩; refine ⟨_, rfl, ?_⟩; have n0_ := Aside0.mk (Kd.R_below (rf_ (fm_ (fr_ (fr_ (fr_ (ft_ HO_1192000 BK1253) 0 (.slice Ao124 t1243.length co124)) 1 (.slice Ao130 t1246.length co130)) 2 (.slice Ao131 t1249.length co131)))) hb); have n1_ := Aside0.mk (Kd.R_below (rf_ (fm_ (fr_ (fr_ (fr_ (ft_ HO_1192001 BK1253) 0 (.slice Ao124 t1243.length co124)) 1 (.slice Ao130 t1246.length co130)) 2 (.slice Ao131 t1249.length co131)))) hb); have n2_ := Aside0.mk (Kd.R_below (rf_ (fm_ (fr_ (fr_ (fr_ (ft_ HO_1192002 BK1253) 0 (.slice Ao124 t1243.length co124)) 1 (.slice Ao130 t1246.length co130)) 2 (.slice Ao131 t1249.length co131)))) hb); have n3_ := Aside0.mk (Kd.R_below (rf_ (fm_ (fr_ (fr_ (fr_ (ft_ HO_1202000 BK1253) 0 (.slice Ao124 t1243.length co124)) 1 (.slice Ao130 t1246.length co130)) 2 (.slice Ao131 t1249.length co131)))) hb); have n4_ := Aside0.mk (Kd.R_below (rf_ (fm_ (fr_ (fr_ (fr_ (ft_ HO_1202001 BK1253) 0 (.slice Ao124 t1243.length co124)) 1 (.slice Ao130 t1246.length co130)) 2 (.slice Ao131 t1249.length co131)))) hb); have n5_ := Aside0.mk (Kd.R_below (rf_ (fm_ (fr_ (fr_ (fr_ (ft_ HO_1202002 BK1253) 0 (.slice Ao124 t1243.length co124)) 1 (.slice Ao130 t1246.length co130)) 2 (.slice Ao131 t1249.length co131)))) hb); have n6_ := Aside0.mk (Kd.R_below (rf_ (fm_ (fr_ (fr_ (fr_ (ft_ HO_1213000 BK1253) 0 (.slice Ao124 t1243.length co124)) 1 (.slice Ao130 t1246.length co130)) 2 (.slice Ao131 t1249.length co131)))) hb); have n7_ := Aside0.mk (Kd.R_below (rf_ (fm_ (fr_ (fr_ (fr_ (ft_ HO_1213001 BK1253) 0 (.slice Ao124 t1243.length co124)) 1 (.slice Ao130 t1246.length co130)) 2 (.slice Ao131 t1249.length co131)))) hb); have n8_ := Aside0.mk (Kd.R_below (rf_ (fm_ (fr_ (fr_ (fr_ (ft_ HO_1213002 BK1253) 0 (.slice Ao124 t1243.length co124)) 1 (.slice Ao130 t1246.length co130)) 2 (.slice Ao131 t1249.length co131)))) hb); have n9_ := Aside0.mk (Kd.R_below (rf_ (fm_ (fr_ (fr_ (fr_ (ft_ HO1236 BK1253) 0 (.slice Ao124 t1243.length co124)) 1 (.slice Ao130 t1246.length co130)) 2 (.slice Ao131 t1249.length co131)))) hb); have n10_ := Aside0.mk (Kd.R_below (rf_ (fm_ (fr_ (fr_ (fr_ (ft_ HO1239 BK1253) 0 (.slice Ao124 t1243.length co124)) 1 (.slice Ao130 t1246.length co130)) 2 (.slice Ao131 t1249.length co131)))) hb); have n11_ := Aside0.mk (Kd.R_below (rf_ (fm_ (fr_ (fr_ (fr_ (ft_ HO1242 BK1253) 0 (.slice Ao124 t1243.length co124)) 1 (.slice Ao130 t1246.length co130)) 2 (.slice Ao131 t1249.length co131)))) hb); have n12_ := Aside0.mk (Kd.R_below (rf_ (fm_ (fr_ (fr_ (fr_ (ft_ HO1245 BK1253) 0 (.slice Ao124 t1243.length co124)) 1 (.slice Ao130 t1246.length co130)) 2 (.slice Ao131 t1249.length co131)))) hb); have n13_ := Aside0.mk (Kd.R_below (rf_ (fm_ (fr_ (fr_ (fr_ (ft_ HO1248 BK1253) 0 (.slice Ao124 t1243.length co124)) 1 (.slice Ao130 t1246.length co130)) 2 (.slice Ao131 t1249.length co131)))) hb); have n14_ := Aside0.mk (Kd.R_below (rf_ (fm_ (fr_ (fr_ (fr_ (ft_ HO1251 BK1253) 0 (.slice Ao124 t1243.length co124)) 1 (.slice Ao130 t1246.length co130)) 2 (.slice Ao131 t1249.length co131)))) hb); have n15_ := Aside0.mk (blk_below (g := gb1170) (o := .cells #[.slice A0_0 l0_0.length c0_0, .slice A0_1 l0_1.length c0_1, .slice A0_2 l0_2.length c0_2] 45 (0, 0)) (by (with_reducible repeat (first | apply lN_ | apply lD_ | apply lA_)); refine blk_far ?_ NB1170_1253.out _; (with_reducible repeat (first | apply lN_ | apply lD_ | apply lA_)); refine blk_far ?_ NB1170_1253.out _; (with_reducible repeat (first | apply lN_ | apply lD_ | apply lA_)); refine blk_far ?_ NB1170_1253.out _; (with_reducible repeat (first | apply lN_ | apply lD_ | apply lA_)); exact BK1170.out) hb); have n16_ := Aside0.mk (blk_below (g := gb1191) (o := .cells #[.slice Ao23 t1181.length co23, .slice Ao26 t1184.length co26, .slice Ao27 t1187.length co27] 35 (0, 0)) (by (with_reducible repeat (first | apply lN_ | apply lD_ | apply lA_)); refine blk_far ?_ NB1191_1253.out _; (with_reducible repeat (first | apply lN_ | apply lD_ | apply lA_)); refine blk_far ?_ NB1191_1253.out _; (with_reducible repeat (first | apply lN_ | apply lD_ | apply lA_)); refine blk_far ?_ NB1191_1253.out _; (with_reducible repeat (first | apply lN_ | apply lD_ | apply lA_)); exact BK1191.out) hb); have n17_ := Aside0.mk (blk_below (g := gb1201) (o := .cells #[.slice Ao31 t1225.length co31, .slice Ao35 t1226.length co35, .slice Ao36 t1227.length co36] 35 (0, 0)) (by (with_reducible repeat (first | apply lN_ | apply lD_ | apply lA_)); refine blk_far ?_ NB1201_1253.out _; (with_reducible repeat (first | apply lN_ | apply lD_ | apply lA_)); refine blk_far ?_ NB1201_1253.out _; (with_reducible repeat (first | apply lN_ | apply lD_ | apply lA_)); refine blk_far ?_ NB1201_1253.out _; (with_reducible repeat (first | apply lN_ | apply lD_ | apply lA_)); exact BK1201.out) hb); have n18_ := Aside0.mk (blk_below (g := gb1212) (o := .cells #[.slice Ao39 t1202.length co39, .slice Ao44 t1205.length co44, .slice Ao45 t1208.length co45] 35 (0, 0)) (by (with_reducible repeat (first | apply lN_ | apply lD_ | apply lA_)); refine blk_far ?_ NB1212_1253.out _; (with_reducible repeat (first | apply lN_ | apply lD_ | apply lA_)); refine blk_far ?_ NB1212_1253.out _; (with_reducible repeat (first | apply lN_ | apply lD_ | apply lA_)); refine blk_far ?_ NB1212_1253.out _; (with_reducible repeat (first | apply lN_ | apply lD_ | apply lA_)); exact BK1212.out) hb); have n19_ := Aside0.mk (blk_below (g := gb1253) (o := .cells #[.slice Ao124 t1243.length co124, .slice Ao130 t1246.length co130, .slice Ao131 t1249.length co131] 35 (0, 0)) (by (with_reducible repeat (first | apply lN_ | apply lD_ | apply lA_)); refine blk_put (cs := #[.slice Ao124 t1243.length co124, .slice Ao130 t1246.length co130, .slice none 0 0]) ?_ 2 _ rfl; (with_reducible repeat (first | apply lN_ | apply lD_ | apply lA_)); refine blk_put (cs := #[.slice Ao124 t1243.length co124, .slice none 0 0, .slice none 0 0]) ?_ 1 _ rfl; (with_reducible repeat (first | apply lN_ | apply lD_ | apply lA_)); refine blk_put (cs := #[.slice none 0 0, .slice none 0 0, .slice none 0 0]) ?_ 0 _ rfl; (with_reducible repeat (first | apply lN_ | apply lD_ | apply lA_)); exact BK1253.out) hb); have n20_ := Aside0.mk (below_step (by repeat (first | (with_reducible first | exact HB.out | apply bA_ | apply bN_ | apply bD_ | refine bS_ ?_ GE1170.out | refine bS_ ?_ GE1191.out | refine bS_ ?_ GE1201.out | refine bS_ ?_ GE1212.out | refine bS_ ?_ GE1253.out) | exact HB.out)) hb); clear HO_1192000; clear HO_1192001; clear HO_1192002; clear HO_1202000; clear HO_1202001; clear HO_1202002; clear HO_1213000; clear HO_1213001; clear HO_1213002; clear HO1236; clear HO1239; clear HO1242; clear HO1245; clear HO1248; clear HO1251; clear BK1170; clear BK1191; clear BK1201; clear BK1212; clear BK1253; clear HB; have HO_1192000 := n0_; have HO_1192001 := n1_; have HO_1192002 := n2_; have HO_1202000 := n3_; have HO_1202001 := n4_; have HO_1202002 := n5_; have HO_1213000 := n6_; have HO_1213001 := n7_; have HO_1213002 := n8_; have HO1236 := n9_; have HO1239 := n10_; have HO1242 := n11_; have HO1245 := n12_; have HO1248 := n13_; have HO1251 := n14_; have BK1170 := n15_; have BK1191 := n16_; have BK1201 := n17_; have BK1212 := n18_; have BK1253 := n19_; have HB := n20_; clear n0_ n1_ n2_ n3_ n4_ n5_ n6_ n7_ n8_ n9_ n10_ n11_ n12_ n13_ n14_ n15_ n16_ n17_ n18_ n19_ n20_; (try clear hb); (try clear hb2); (try clear hk); (try clear hi)))
             go_meet
             case rel => exact ⟨_, (true), (by first | rfl | (simp; done) | (simp [*]; done)), H', ⟨by have := HJ11.out; have := HJ68.out; first | omega | exact Nat.le_refl _⟩, ⟨by (try simp only [hl1202000_68]); (try simp only [hl1202001_68]); (try simp only [hl1202002_68]); (with_reducible repeat (first | apply rA_ | apply rN_ | apply rD_)); exact Kd.R_mono HO_1192000.out (fun _ hk => ⟨hk.1.1.1, ⟨hk.1.1.2, hk.2⟩⟩)⟩, ⟨by (try simp only [hl1202000_68]); (try simp only [hl1202001_68]); (try simp only [hl1202002_68]); (with_reducible repeat (first | apply rA_ | apply rN_ | apply rD_)); exact Kd.R_mono HO_1192001.out (fun _ hk => ⟨hk.1.1.1.1.1, ⟨hk.1.1.1.1.2.1, ⟨hk.1.1.1.1.2.2.1, ⟨hk.1.1.1.1.2.2.2.1, ⟨hk.1.1.1.1.2.2.2.2, ⟨hk.1.2, hk.2⟩⟩⟩⟩⟩⟩)⟩, ⟨by (try simp only [hl1202000_68]); (try simp only [hl1202001_68]); (try simp only [hl1202002_68]); (with_reducible repeat (first | apply rA_ | apply rN_ | apply rD_)); exact Kd.R_mono HO_1192002.out (fun _ hk => ⟨hk.1.1.1.1.1, ⟨hk.1.1.1.1.2.1, ⟨hk.1.1.1.1.2.2.1, ⟨hk.1.1.1.1.2.2.2.1, ⟨hk.1.1.1.1.2.2.2.2, ⟨hk.1.2, hk.2⟩⟩⟩⟩⟩⟩)⟩, ⟨by (try simp only [hl1202000_68]); (try simp only [hl1202001_68]); (try simp only [hl1202002_68]); (with_reducible repeat (first | apply rA_ | apply rN_ | apply rD_)); exact Kd.R_mono HO_1202000.out (fun _ hk => ⟨hk.1.1.1, ⟨hk.1.1.2, hk.2⟩⟩)⟩, ⟨by (try simp only [hl1202000_68]); (try simp only [hl1202001_68]); (try simp only [hl1202002_68]); (with_reducible repeat (first | apply rA_ | apply rN_ | apply rD_)); exact Kd.R_mono HO_1202001.out (fun _ hk => ⟨hk.1.1.1.1.1, ⟨hk.1.1.1.1.2.1, ⟨hk.1.1.1.1.2.2.1, ⟨hk.1.1.1.1.2.2.2.1, ⟨hk.1.1.1.1.2.2.2.2, ⟨hk.1.2, hk.2⟩⟩⟩⟩⟩⟩)⟩, ⟨by (try simp only [hl1202000_68]); (try simp only [hl1202001_68]); (try simp only [hl1202002_68]); (with_reducible repeat (first | apply rA_ | apply rN_ | apply rD_)); exact Kd.R_mono HO_1202002.out (fun _ hk => ⟨hk.1.1.1.1.1, ⟨hk.1.1.1.1.2.1, ⟨hk.1.1.1.1.2.2.1, ⟨hk.1.1.1.1.2.2.2.1, ⟨hk.1.1.1.1.2.2.2.2, ⟨hk.1.2, hk.2⟩⟩⟩⟩⟩⟩)⟩, ⟨by (try simp only [hl1202000_68]); (try simp only [hl1202001_68]); (try simp only [hl1202002_68]); (with_reducible repeat (first | apply rA_ | apply rN_ | apply rD_)); exact Kd.R_mono HO_1213000.out (fun _ hk => ⟨hk.1.1.1, ⟨hk.1.1.2, hk.2⟩⟩)⟩, ⟨by (try simp only [hl1202000_68]); (try simp only [hl1202001_68]); (try simp only [hl1202002_68]); (with_reducible repeat (first | apply rA_ | apply rN_ | apply rD_)); exact Kd.R_mono HO_1213001.out (fun _ hk => ⟨hk.1.1.1.1.1, ⟨hk.1.1.1.1.2.1, ⟨hk.1.1.1.1.2.2.1, ⟨hk.1.1.1.1.2.2.2.1, ⟨hk.1.1.1.1.2.2.2.2, ⟨hk.1.2, hk.2⟩⟩⟩⟩⟩⟩)⟩, ⟨by (try simp only [hl1202000_68]); (try simp only [hl1202001_68]); (try simp only [hl1202002_68]); (with_reducible repeat (first | apply rA_ | apply rN_ | apply rD_)); exact Kd.R_mono HO_1213002.out (fun _ hk => ⟨hk.1.1.1.1.1, ⟨hk.1.1.1.1.2.1, ⟨hk.1.1.1.1.2.2.1, ⟨hk.1.1.1.1.2.2.2.1, ⟨hk.1.1.1.1.2.2.2.2, ⟨hk.1.2, hk.2⟩⟩⟩⟩⟩⟩)⟩, ⟨by (try simp only [hl1202000_68]); (try simp only [hl1202001_68]); (try simp only [hl1202002_68]); (with_reducible repeat (first | apply rA_ | apply rN_ | apply rD_)); exact Kd.R_mono HO1245.out (fun _ hk => ⟨hk.1.1.1.2, ⟨hk.1.1.2, hk.1.2⟩⟩)⟩, ⟨by (try simp only [hl1202000_68]); (try simp only [hl1202001_68]); (try simp only [hl1202002_68]); (with_reducible repeat (first | apply rA_ | apply rN_ | apply rD_)); exact Kd.R_mono HO1248.out (fun _ hk => ⟨hk.1.1.1.1.1.1.1.2, ⟨hk.1.1.1.1.1.1.2, ⟨hk.1.1.1.1.1.2, ⟨hk.1.1.1.1.2, ⟨hk.1.1.1.2, ⟨hk.1.1.2, hk.1.1.1.1.1.1.1.1⟩⟩⟩⟩⟩⟩)⟩, ⟨by (try simp only [hl1202000_68]); (try simp only [hl1202001_68]); (try simp only [hl1202002_68]); (with_reducible repeat (first | apply rA_ | apply rN_ | apply rD_)); exact Kd.R_mono HO1251.out (fun _ hk => ⟨hk.1.1.1.1.1.1.1.2, ⟨hk.1.1.1.1.1.1.2, ⟨hk.1.1.1.1.1.2, ⟨hk.1.1.1.1.2, ⟨hk.1.1.1.2, ⟨hk.1.1.2, hk.1.1.1.1.1.1.1.1⟩⟩⟩⟩⟩⟩)⟩, ⟨by (try simp only [hl1202000_68]); (try simp only [hl1202001_68]); (try simp only [hl1202002_68]); (with_reducible repeat (first | apply lN_ | apply lD_ | apply lA_)); exact BK1170.out⟩, ⟨by (try simp only [hl1202000_68]); (try simp only [hl1202001_68]); (try simp only [hl1202002_68]); (with_reducible repeat (first | apply lN_ | apply lD_ | apply lA_)); exact BK1191.out⟩, ⟨by (try simp only [hl1202000_68]); (try simp only [hl1202001_68]); (try simp only [hl1202002_68]); (with_reducible repeat (first | apply lN_ | apply lD_ | apply lA_)); exact BK1201.out⟩, ⟨by (try simp only [hl1202000_68]); (try simp only [hl1202001_68]); (try simp only [hl1202002_68]); (with_reducible repeat (first | apply lN_ | apply lD_ | apply lA_)); exact BK1212.out⟩, ⟨by (try simp only [hl1202000_68]); (try simp only [hl1202001_68]); (try simp only [hl1202002_68]); (with_reducible repeat (first | apply lN_ | apply lD_ | apply lA_)); exact BK1253.out⟩, ⟨by repeat (first | (with_reducible first | exact HB.out | apply bA_ | apply bN_ | apply bD_ | refine bS_ ?_ GE1170.out | refine bS_ ?_ GE1191.out | refine bS_ ?_ GE1201.out | refine bS_ ?_ GE1212.out | refine bS_ ?_ GE1253.out) | exact HB.out)⟩⟩
           case rest =>
            clear HC107
            try clear c1
            try clear c2
            try clear p2
            try clear c3
            try clear c4
            try clear c4b0
            try clear c5
            try clear c6
            try clear c7
            try clear c8
            try clear c9
            try clear c10
            try clear c11
            try clear c12
            try clear c13
            try clear c14
            try clear c15
            try clear c23
            try clear c24
            try clear c26
            try clear c27
            try clear c28
            try clear c30
            try clear c32
            try clear c33
            try clear c40
            try clear c41
            try clear c42
            try clear c45
            try clear c46
            try clear c47
            try clear c48
            try clear c49
            try clear c50
            try clear c52
            try clear c53
            try clear c56
            try clear c57
            try clear c58
            try clear c60
            try clear c61
            try clear c64
            try clear c67
            try clear c76
            try clear c77
            try clear c78
            try clear c81
            try clear c81b0
            try clear c83
            try clear c84
            try clear c85
            try clear c86
            try clear c88
            try clear c89
            try clear c92
            try clear c93
            try clear c94
            try clear c96
            try clear c97
            try clear c100
            try clear c103
            try clear c103b0
            try clear c104
            try clear c104b0
            try clear c104b1
            try clear c108
            try clear c109
            try clear c110
            try clear c115
            try clear c116
            try clear c125
            try clear c126
            try clear c127
            try clear c128
            try clear c133
            try clear c134
            try clear c135
            try clear c136
            try clear c137
            try clear c139
            try clear c140
            try clear c141
            try clear c144
            try clear c145
            try clear c146
            try clear c147
            try clear c149
            try clear c150
            try clear c151
            try clear hcz111_0
            try clear hcz111_1
            try clear hcz111_2
            try clear hcz113_0
            try clear hcz113_1
            try clear hcz113_2
            try clear hcz117_0
            try clear hcz117_1
            try clear hcz117_2
            try clear hcz129_0
            try clear hcz129_1
            try clear hcz129_2
            try clear hcz138_0
            try clear hcz138_1
            try clear hcz138_2
            try clear hcz142_0
            try clear hcz142_1
            try clear hcz142_2
            try clear hcz148_0
            try clear hcz148_1
            try clear hcz148_2
            try clear hcz14_0
            try clear hcz14_1
            try clear hcz14_2
            try clear hcz152_0
            try clear hcz152_1
            try clear hcz152_2
            try clear hcz16_0
            try clear hcz16_1
            try clear hcz16_2
            try clear hcz25_0
            try clear hcz25_1
            try clear hcz25_2
            try clear hcz28_0
            try clear hcz28_1
            try clear hcz28_2
            try clear hcz34_0
            try clear hcz34_1
            try clear hcz34_2
            try clear hcz43_0
            try clear hcz43_1
            try clear hcz43_2
            try clear hcz51_0
            try clear hcz51_1
            try clear hcz51_2
            try clear hcz54_0
            try clear hcz54_1
            try clear hcz54_2
            try clear hcz59_0
            try clear hcz59_1
            try clear hcz59_2
            try clear hcz62_0
            try clear hcz62_1
            try clear hcz62_2
            try clear hcz6_0
            try clear hcz6_1
            try clear hcz6_2
            try clear hcz79_0
            try clear hcz79_1
            try clear hcz79_2
            try clear hcz87_0
            try clear hcz87_1
            try clear hcz87_2
            try clear hcz90_0
            try clear hcz90_1
            try clear hcz90_2
            try clear hcz95_0
            try clear hcz95_1
            try clear hcz95_2
            try clear hcz98_0
            try clear hcz98_1
            try clear hcz98_2
            try clear hfz111_0
            try clear hfz111_1
            try clear hfz111_2
            try clear hfz113_0
            try clear hfz113_1
            try clear hfz113_2
            try clear hfz117_0
            try clear hfz117_1
            try clear hfz117_2
            try clear hfz129_0
            try clear hfz129_1
            try clear hfz129_2
            try clear hfz138_0
            try clear hfz138_1
            try clear hfz138_2
            try clear hfz142_0
            try clear hfz142_1
            try clear hfz142_2
            try clear hfz148_0
            try clear hfz148_1
            try clear hfz148_2
            try clear hfz14_0
            try clear hfz14_1
            try clear hfz14_2
            try clear hfz152_0
            try clear hfz152_1
            try clear hfz152_2
            try clear hfz16_0
            try clear hfz16_1
            try clear hfz16_2
            try clear hfz25_0
            try clear hfz25_1
            try clear hfz25_2
            try clear hfz28_0
            try clear hfz28_1
            try clear hfz28_2
            try clear hfz34_0
            try clear hfz34_1
            try clear hfz34_2
            try clear hfz43_0
            try clear hfz43_1
            try clear hfz43_2
            try clear hfz51_0
            try clear hfz51_1
            try clear hfz51_2
            try clear hfz54_0
            try clear hfz54_1
            try clear hfz54_2
            try clear hfz59_0
            try clear hfz59_1
            try clear hfz59_2
            try clear hfz62_0
            try clear hfz62_1
            try clear hfz62_2
            try clear hfz6_0
            try clear hfz6_1
            try clear hfz6_2
            try clear hfz79_0
            try clear hfz79_1
            try clear hfz79_2
            try clear hfz87_0
            try clear hfz87_1
            try clear hfz87_2
            try clear hfz90_0
            try clear hfz90_1
            try clear hfz90_2
            try clear hfz95_0
            try clear hfz95_1
            try clear hfz95_2
            try clear hfz98_0
            try clear hfz98_1
            try clear hfz98_2
            try clear p2
            obtain ⟨kq, x92_106, rfl, HA, HJ106, HO_1192000, HO_1192001, HO_1192002, HO_1202000, HO_1202001, HO_1202002, HO_1213000, HO_1213001, HO_1213002, HO_1254000, HO_1254001, HO_1254002, BK1170, BK1191, BK1201, BK1212, BK1253, HB⟩ := hcut
            have hl1213000_106 := (Kd.R_reads' HO_1213000.out).1
            rw [hl1213000_106] at HO_1213000
            (try simp only [hl1213000_106])
            (try simp only [hl1213000_106] at BK1170)
            (try simp only [hl1213000_106] at BK1191)
            (try simp only [hl1213000_106] at BK1201)
            (try simp only [hl1213000_106] at BK1212)
            (try simp only [hl1213000_106] at BK1253)
            (try simp only [hl1213000_106] at HO_1192000)
            (try simp only [hl1213000_106] at HO_1192001)
            (try simp only [hl1213000_106] at HO_1192002)
            (try simp only [hl1213000_106] at HO_1202000)
            (try simp only [hl1213000_106] at HO_1202001)
            (try simp only [hl1213000_106] at HO_1202002)
            (try simp only [hl1213000_106] at HO_1213001)
            (try simp only [hl1213000_106] at HO_1213002)
            (try simp only [hl1213000_106] at HO_1254000)
            (try simp only [hl1213000_106] at HO_1254001)
            (try simp only [hl1213000_106] at HO_1254002)
            have hl1213001_106 := (Kd.R_reads' HO_1213001.out).1
            rw [hl1213001_106] at HO_1213001
            (try simp only [hl1213001_106])
            (try simp only [hl1213001_106] at BK1170)
            (try simp only [hl1213001_106] at BK1191)
            (try simp only [hl1213001_106] at BK1201)
            (try simp only [hl1213001_106] at BK1212)
            (try simp only [hl1213001_106] at BK1253)
            (try simp only [hl1213001_106] at HO_1192000)
            (try simp only [hl1213001_106] at HO_1192001)
            (try simp only [hl1213001_106] at HO_1192002)
            (try simp only [hl1213001_106] at HO_1202000)
            (try simp only [hl1213001_106] at HO_1202001)
            (try simp only [hl1213001_106] at HO_1202002)
            (try simp only [hl1213001_106] at HO_1213000)
            (try simp only [hl1213001_106] at HO_1213002)
            (try simp only [hl1213001_106] at HO_1254000)
            (try simp only [hl1213001_106] at HO_1254001)
            (try simp only [hl1213001_106] at HO_1254002)
            have hl1213002_106 := (Kd.R_reads' HO_1213002.out).1
            rw [hl1213002_106] at HO_1213002
            (try simp only [hl1213002_106])
            (try simp only [hl1213002_106] at BK1170)
            (try simp only [hl1213002_106] at BK1191)
            (try simp only [hl1213002_106] at BK1201)
            (try simp only [hl1213002_106] at BK1212)
            (try simp only [hl1213002_106] at BK1253)
            (try simp only [hl1213002_106] at HO_1192000)
            (try simp only [hl1213002_106] at HO_1192001)
            (try simp only [hl1213002_106] at HO_1192002)
            (try simp only [hl1213002_106] at HO_1202000)
            (try simp only [hl1213002_106] at HO_1202001)
            (try simp only [hl1213002_106] at HO_1202002)
            (try simp only [hl1213002_106] at HO_1213000)
            (try simp only [hl1213002_106] at HO_1213001)
            (try simp only [hl1213002_106] at HO_1254000)
            (try simp only [hl1213002_106] at HO_1254001)
            (try simp only [hl1213002_106] at HO_1254002)
            cases kq with
            | zero => exact absurd HA.out (by simp [laws_FnExactDeleteItem.j2])
            | succ kj106 =>
             have H := HA.out
             clear HA
             simp only [laws_FnExactDeleteItem.j2] at H
             by_cases c154 : x92_106 = true
             ·subst c154
              have H1 : (none) = some r := by rw [if_pos rfl] at H; exact H
              clear H
              have H := H1
              clear H1
              exact absurd H (by simp)
             ·replace c154 := Bool.eq_false_iff.mpr c154
              subst c154
              have H1 : ((laws_heldDesk.f kj106 t1230 t1231 t1232 1).bind fun t1255 => (if t1255 < 0 then (none) else (if t1255 = t1229 then (some true) else (none)))) = some r := by rw [if_neg (show ¬ (false = true) by decide)] at H; exact H
              clear H
              have H := H1
              clear H1
              replace H := Option.bind_eq_some_iff.mp H
              obtain ⟨t1255, A1550, H⟩ := H
              try dsimp only at H
              have A155 := Aside0.mk A1550
              clear A1550
              by_cases c156 : t1255 < 0
              ·rw [if_pos c156] at H
               exact absurd H (by simp)
              ·rw [if_neg c156] at H
               have c156b0 : decide (t1255 < 0) = false := decide_eq_false c156
               clear c156
               by_cases c157 : t1255 = t1229
               ·rw [if_pos c157] at H
                have c157b0 : (t1255 == t1229) = true := beq_iff_eq.mpr c157
                have c157b1 : (t1255 != t1229) = false := bne_eq_false_iff_eq.mpr c157
                clear c157
                obtain rfl := Option.some.inj H
                have hnb158 := NB1212_1170.out
                have hnc158 := NB1170_1212.out
                have hnb159 := NB1212_1191.out
                have hnc159 := NB1191_1212.out
                have hnb160 := NB1212_1201.out
                have hnc160 := NB1201_1212.out
                have hnb161 := NB1212_1253.out
                have hnc161 := NB1253_1212.out
                have hcz162_0 := cz0_ BK1212
                have hcz162_1 := cz1_ BK1212
                have hcz162_2 := cz2_ BK1212
                have hfz162_0 := fz_ BK1212 0
                have hfz162_1 := fz_ BK1212 1
                have hfz162_2 := fz_ BK1212 2
                go_wp2_with (first | ((with_reducible refine gate_callee (f := 27) rfl ?_); refine goesL_ (some 95) rfl rfl Try.func27 (by kernel_rfl) rfl #[.agg #[.slice Ao39 t1230.length co39, .slice Ao44 t1231.length co44, .slice Ao45 t1232.length co45], .int .i64 1] rfl args_ ?_; (with_reducible refine (laws_heldDesk.calls kj106 _ _ t1230 _ _ t1231 _ _ t1232 1 t1255 _ ?side1 ?side2 ?side3 ?side4 ?side5 ?side6 A155.out).mono ?_); (case side1 => exact cr_ HO_1213000); (case side2 => exact (Kd.R_reads' HO_1213000.out).2.1); (case side3 => exact cr_ HO_1213001); (case side4 => exact (Kd.R_reads' HO_1213001.out).2.1); (case side5 => exact cr_ HO_1213002); (case side6 => exact (Kd.R_reads' HO_1213002.out).2.1); rintro e w163 ⟨rfl, hb⟩; refine ⟨_, rfl, ?_⟩; have n0_ := Aside0.mk (Kd.R_below (ra_ HO_1192000) hb); have n1_ := Aside0.mk (Kd.R_below (ra_ HO_1192001) hb); have n2_ := Aside0.mk (Kd.R_below (ra_ HO_1192002) hb); have n3_ := Aside0.mk (Kd.R_below (ra_ HO_1202000) hb); have n4_ := Aside0.mk (Kd.R_below (ra_ HO_1202001) hb); have n5_ := Aside0.mk (Kd.R_below (ra_ HO_1202002) hb); have n6_ := Aside0.mk (Kd.R_below (ra_ HO_1213000) hb); have n7_ := Aside0.mk (Kd.R_below (ra_ HO_1213001) hb); have n8_ := Aside0.mk (Kd.R_below (ra_ HO_1213002) hb); have n9_ := Aside0.mk (Kd.R_below (ra_ HO_1254000) hb); have n10_ := Aside0.mk (Kd.R_below (ra_ HO_1254001) hb); have n11_ := Aside0.mk (Kd.R_below (ra_ HO_1254002) hb); have n12_ := Aside0.mk (lb_ BK1170 hb); have n13_ := Aside0.mk (lb_ BK1191 hb); have n14_ := Aside0.mk (lb_ BK1201 hb); have n15_ := Aside0.mk (lb_ BK1212 hb); have n16_ := Aside0.mk (lb_ BK1253 hb); have n17_ := Aside0.mk (below_step (by repeat (first | (with_reducible first | exact HB.out | apply bA_ | apply bN_ | apply bD_ | refine bS_ ?_ GE1170.out | refine bS_ ?_ GE1191.out | refine bS_ ?_ GE1201.out | refine bS_ ?_ GE1212.out | refine bS_ ?_ GE1253.out) | exact HB.out)) hb); clear HO_1192000; clear HO_1192001; clear HO_1192002; clear HO_1202000; clear HO_1202001; clear HO_1202002; clear HO_1213000; clear HO_1213001; clear HO_1213002; clear HO_1254000; clear HO_1254001; clear HO_1254002; clear BK1170; clear BK1191; clear BK1201; clear BK1212; clear BK1253; clear HB; have HO_1192000 := n0_; have HO_1192001 := n1_; have HO_1192002 := n2_; have HO_1202000 := n3_; have HO_1202001 := n4_; have HO_1202002 := n5_; have HO_1213000 := n6_; have HO_1213001 := n7_; have HO_1213002 := n8_; have HO_1254000 := n9_; have HO_1254001 := n10_; have HO_1254002 := n11_; have BK1170 := n12_; have BK1191 := n13_; have BK1201 := n14_; have BK1212 := n15_; have BK1253 := n16_; have HB := n17_; clear n0_ n1_ n2_ n3_ n4_ n5_ n6_ n7_ n8_ n9_ n10_ n11_ n12_ n13_ n14_ n15_ n16_ n17_; (try clear hb); (try clear hb2); (try clear hk); (try clear hi)))
                go_ret
                exact ⟨by first | rfl | (simp [errW_none, errW_some] <;> rfl) | (simp [*, errW_none, errW_some] <;> rfl), by repeat (first | (with_reducible first | exact HB.out | apply bA_ | apply bN_ | apply bD_ | refine bS_ ?_ GE1170.out | refine bS_ ?_ GE1191.out | refine bS_ ?_ GE1201.out | refine bS_ ?_ GE1212.out | refine bS_ ?_ GE1253.out) | exact HB.out)⟩
               ·rw [if_neg c157] at H
                exact absurd H (by simp)
          ·rw [if_neg c104] at H
           exact absurd H (by simp)
     ·replace c67 := Bool.eq_false_iff.mpr c67
      subst c67
      have H1 : (none) = some r := by rw [if_neg (show ¬ (false = true) by decide)] at H; exact H
      clear H
      have H := H1
      clear H1
      exact absurd H (by simp)

end Go.Proofs.Ytmmpnigbfiebbaa.PA
