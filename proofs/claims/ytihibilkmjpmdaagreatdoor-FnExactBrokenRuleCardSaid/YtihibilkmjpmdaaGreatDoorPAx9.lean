-- Written by a program of this session (wip/tools/myprint.py). Not trusted: Lean checks it.
import Derived.Test.YtihibilkmjpmdaaGreatDoorPAx0
namespace Go.Proofs.YtihibilkmjpmdaaGreatDoor.PA
open Go.RowKit Go.Proofs.YtihibilkmjpmdaaGreatDoorW.PrintWords Go.Proofs.YtihibilkmjpmdaaGreatDoorW.PrintLast Go.Proofs.YtihibilkmjpmdaaGreatDoorW.PrintMore
attribute [local go_sem] max2_int min2_int max_two min_two max_three min_three max_four min_four   -- for this text's walks alone
set_option linter.unusedVariables false
set_option linter.unusedSimpArgs false

/-! ### laws_toShape: function 29 -/
def laws_toShape.f (a0_0 : Int) (a0_1 : Int) (a0_2 : Int) (a0_3 : Int) (a0_4 : Int) (a0_5 : Bool) : Option (Int × Int × Int × Int × Int × Bool) := some (a0_0, a0_1, a0_2, a0_3, a0_4, a0_5)
set_option maxHeartbeats 8000000 in
set_option maxRecDepth 100000 in
theorem laws_toShape.calls (a0_0 : Int) (a0_1 : Int) (a0_2 : Int) (a0_3 : Int) (a0_4 : Int) (a0_5 : Bool) (r1 : Int) (r2 : Int) (r3 : Int) (r4 : Int) (r5 : Int) (r6 : Bool) (w : World) (h : laws_toShape.f a0_0 a0_1 a0_2 a0_3 a0_4 a0_5 = some (r1, r2, r3, r4, r5, r6)) :
  Calls Tryz.prog 29 #[.agg #[.int .i64 a0_0, .int .i64 a0_1, .int .i64 a0_2, .int .i64 a0_3, .int .i64 a0_4, .bool a0_5]] w fun e w' => e = .returned (.agg #[.int .i64 r1, .int .i64 r2, .int .i64 r3, .int .i64 r4, .int .i64 r5, .bool r6]) ∧ Below w.heap.size w w' := by
 have hu23 := Tryz.underlying23
 have hu35 := Tryz.underlying35
 have HB := Aside0.mk (Below.refl w.heap.size w)
 have H : (some (a0_0, a0_1, a0_2, a0_3, a0_4, a0_5)) = some (r1, r2, r3, r4, r5, r6) := h
 clear h
 simp only [Option.some.injEq, Prod.mk.injEq] at H
 obtain ⟨rfl, rfl, rfl, rfl, rfl, rfl⟩ := H
 go_enter Tryz.func29, Tryz.ntmps29
 go_wp2_with (first | ((with_reducible refine gate_dst (N := 1) rfl ?_); refine box_event ?hg (N := 1) ?hd (cs := #[.int .i64 a0_0, .int .i64 a0_1, .int .i64 a0_2, .int .i64 a0_3, .int .i64 a0_4, .bool a0_5]) (t := 23) ?hr ?_; (case hd => rfl); (case hg => rfl); (case hr => first | (go_simp; done) | (go_simp; rfl)); intro gb203 hg w2 hbox hb; have n0_ := Aside0.mk (bt_ HB hb); have n1_ := Aside0.mk (hbox); have n2_ := gz_ hg HB; have n3_ := gz_ hg HB; clear HB; have HB := n0_; have BK203 := n1_; have GW203 := n2_; have GE203 := n3_; clear n0_ n1_ n2_ n3_; clear hb hbox hg) | ((with_reducible refine gate_dst (N := 2) rfl ?_); refine box_event ?hg (N := 2) ?hd (cs := #[.int .i64 0, .int .i64 0, .int .i64 0, .int .i64 0, .int .i64 0, .bool false]) (t := 35) ?hr ?_; (case hd => rfl); (case hg => rfl); (case hr => first | (go_simp; done) | (go_simp; rfl)); intro gb204 hg w3 hbox hb; have n0_ := Aside0.mk (lb_ BK203 hb); have n1_ := Aside0.mk (below_step (bb1_ HB GE203) hb); have n2_ := Aside0.mk (hbox); have n3_ := gy_ hg (bb1_ HB GE203); have n4_ := gy_ hg (bb1_ HB GE203); have n5_ := nl_ hg BK203; have n6_ := ng_ hg BK203; clear BK203; clear HB; have BK203 := n0_; have HB := n1_; have BK204 := n2_; have GW204 := n3_; have GE204 := n4_; have NB203_204 := n5_; have NB204_203 := n6_; clear n0_ n1_ n2_ n3_ n4_ n5_ n6_; clear hb hbox hg) | ((with_reducible refine gate_dst (N := 3) rfl ?_); refine box_event ?hg (N := 3) ?hd (cs := #[.int .i64 0, .int .i64 0, .int .i64 0, .int .i64 0, .int .i64 0, .bool false]) (t := 35) ?hr ?_; (case hd => rfl); (case hg => rfl); (case hr => first | (go_simp; done) | (go_simp; rfl)); intro gb205 hg w4 hbox hb; have n0_ := Aside0.mk (lb_ BK203 hb); have n1_ := Aside0.mk (lb_ BK204 hb); have n2_ := Aside0.mk (below_step (bb2_ HB GE203 GE204) hb); have n3_ := Aside0.mk (hbox); have n4_ := gy_ hg (bb2_ HB GE203 GE204); have n5_ := gy_ hg (bb2_ HB GE203 GE204); have n6_ := nl_ hg BK203; have n7_ := ng_ hg BK203; have n8_ := nl_ hg BK204; have n9_ := ng_ hg BK204; clear BK203; clear BK204; clear HB; have BK203 := n0_; have BK204 := n1_; have HB := n2_; have BK205 := n3_; have GW205 := n4_; have GE205 := n5_; have NB203_205 := n6_; have NB205_203 := n7_; have NB204_205 := n8_; have NB205_204 := n9_; clear n0_ n1_ n2_ n3_ n4_ n5_ n6_ n7_ n8_ n9_; clear hb hbox hg; have hnb5 := NB203_204.out; have hnc5 := NB204_203.out; have hnb6 := NB203_205.out; have hnc6 := NB205_203.out; have hcz7_0 := cz0_ BK203; have hcz7_1 := cz1_ BK203; have hcz7_2 := cz2_ BK203; have hcz7_3 := cz3_ BK203; have hcz7_4 := cz4_ BK203; have hcz7_5 := cz5_ BK203; have hnb8 := NB205_204.out; have hnc8 := NB204_205.out; have hcz9_0 := cz0_ BK205; have hcz9_1 := cz1_ BK205; have hcz9_2 := cz2_ BK205; have hcz9_3 := cz3_ BK205; have hcz9_4 := cz4_ BK205; have hcz9_5 := cz5_ BK205; have hfz9_0 := fz_ BK205 0; have hfz9_1 := fz_ BK205 1; have hfz9_2 := fz_ BK205 2; have hfz9_3 := fz_ BK205 3; have hfz9_4 := fz_ BK205 4; have hfz9_5 := fz_ BK205 5; have hcz10_0 := cz0_ BK204; have hcz10_1 := cz1_ BK204; have hcz10_2 := cz2_ BK204; have hcz10_3 := cz3_ BK204; have hcz10_4 := cz4_ BK204; have hcz10_5 := cz5_ BK204; have hfz10_0 := fz_ BK204 0; have hfz10_1 := fz_ BK204 1; have hfz10_2 := fz_ BK204 2; have hfz10_3 := fz_ BK204 3; have hfz10_4 := fz_ BK204 4; have hfz10_5 := fz_ BK204 5))
 refine bodyPost_ret (results_cell_row rfl _ _ gb204 35 #[.int .i64 a0_0, .int .i64 a0_1, .int .i64 a0_2, .int .i64 a0_3, .int .i64 a0_4, .bool a0_5] (0, 0) _ rfl (by (with_reducible repeat (first | apply lN_ | apply lD_ | apply lA_)); refine blk_put (cs := #[.int .i64 a0_0, .int .i64 a0_1, .int .i64 a0_2, .int .i64 a0_3, .int .i64 a0_4, .bool false]) ?_ 5 _ rfl; (with_reducible repeat (first | apply lN_ | apply lD_ | apply lA_)); refine blk_put (cs := #[.int .i64 a0_0, .int .i64 a0_1, .int .i64 a0_2, .int .i64 a0_3, .int .i64 0, .bool false]) ?_ 4 _ rfl; (with_reducible repeat (first | apply lN_ | apply lD_ | apply lA_)); refine blk_put (cs := #[.int .i64 a0_0, .int .i64 a0_1, .int .i64 a0_2, .int .i64 0, .int .i64 0, .bool false]) ?_ 3 _ rfl; (with_reducible repeat (first | apply lN_ | apply lD_ | apply lA_)); refine blk_put (cs := #[.int .i64 a0_0, .int .i64 a0_1, .int .i64 0, .int .i64 0, .int .i64 0, .bool false]) ?_ 2 _ rfl; (with_reducible repeat (first | apply lN_ | apply lD_ | apply lA_)); refine blk_put (cs := #[.int .i64 a0_0, .int .i64 0, .int .i64 0, .int .i64 0, .int .i64 0, .bool false]) ?_ 1 _ rfl; (with_reducible repeat (first | apply lN_ | apply lD_ | apply lA_)); refine blk_put (cs := #[.int .i64 0, .int .i64 0, .int .i64 0, .int .i64 0, .int .i64 0, .bool false]) ?_ 0 _ rfl; (with_reducible repeat (first | apply lN_ | apply lD_ | apply lA_)); refine blk_far ?_ NB204_205.out _; (with_reducible repeat (first | apply lN_ | apply lD_ | apply lA_)); refine blk_far ?_ NB204_205.out _; (with_reducible repeat (first | apply lN_ | apply lD_ | apply lA_)); refine blk_far ?_ NB204_205.out _; (with_reducible repeat (first | apply lN_ | apply lD_ | apply lA_)); refine blk_far ?_ NB204_205.out _; (with_reducible repeat (first | apply lN_ | apply lD_ | apply lA_)); refine blk_far ?_ NB204_205.out _; (with_reducible repeat (first | apply lN_ | apply lD_ | apply lA_)); refine blk_far ?_ NB204_205.out _; (with_reducible repeat (first | apply lN_ | apply lD_ | apply lA_)); exact BK204.out) Tryz.underlying35 rfl (by kernel_rfl)) rfl ?_
 exact ⟨by first | rfl | (simp [errW_none, errW_some] <;> rfl) | (simp [*, errW_none, errW_some] <;> rfl), bb3_ HB GE203 GE204 GE205⟩

/-! ### laws_toOrient: function 30 -/
def laws_toOrient.f (a0_0 : Int) (a0_1 : Int) : Option (Int × Int) := some (a0_0, a0_1)
set_option maxHeartbeats 8000000 in
set_option maxRecDepth 100000 in
theorem laws_toOrient.calls (a0_0 : Int) (a0_1 : Int) (r1 : Int) (r2 : Int) (w : World) (h : laws_toOrient.f a0_0 a0_1 = some (r1, r2)) :
  Calls Tryz.prog 30 #[.agg #[.int .i64 a0_0, .int .i64 a0_1]] w fun e w' => e = .returned (.agg #[.int .i64 r1, .int .i64 r2]) ∧ Below w.heap.size w w' := by
 have hu25 := Tryz.underlying25
 have hu36 := Tryz.underlying36
 have HB := Aside0.mk (Below.refl w.heap.size w)
 have H : (some (a0_0, a0_1)) = some (r1, r2) := h
 clear h
 simp only [Option.some.injEq, Prod.mk.injEq] at H
 obtain ⟨rfl, rfl⟩ := H
 go_enter Tryz.func30, Tryz.ntmps30
 go_wp2_with (first | ((with_reducible refine gate_dst (N := 1) rfl ?_); refine box_event ?hg (N := 1) ?hd (cs := #[.int .i64 a0_0, .int .i64 a0_1]) (t := 25) ?hr ?_; (case hd => rfl); (case hg => rfl); (case hr => first | (go_simp; done) | (go_simp; rfl)); intro gb206 hg w2 hbox hb; have n0_ := Aside0.mk (bt_ HB hb); have n1_ := Aside0.mk (hbox); have n2_ := gz_ hg HB; have n3_ := gz_ hg HB; clear HB; have HB := n0_; have BK206 := n1_; have GW206 := n2_; have GE206 := n3_; clear n0_ n1_ n2_ n3_; clear hb hbox hg) | ((with_reducible refine gate_dst (N := 2) rfl ?_); refine box_event ?hg (N := 2) ?hd (cs := #[.int .i64 0, .int .i64 0]) (t := 36) ?hr ?_; (case hd => rfl); (case hg => rfl); (case hr => first | (go_simp; done) | (go_simp; rfl)); intro gb207 hg w3 hbox hb; have n0_ := Aside0.mk (lb_ BK206 hb); have n1_ := Aside0.mk (below_step (bb1_ HB GE206) hb); have n2_ := Aside0.mk (hbox); have n3_ := gy_ hg (bb1_ HB GE206); have n4_ := gy_ hg (bb1_ HB GE206); have n5_ := nl_ hg BK206; have n6_ := ng_ hg BK206; clear BK206; clear HB; have BK206 := n0_; have HB := n1_; have BK207 := n2_; have GW207 := n3_; have GE207 := n4_; have NB206_207 := n5_; have NB207_206 := n6_; clear n0_ n1_ n2_ n3_ n4_ n5_ n6_; clear hb hbox hg) | ((with_reducible refine gate_dst (N := 3) rfl ?_); refine box_event ?hg (N := 3) ?hd (cs := #[.int .i64 0, .int .i64 0]) (t := 36) ?hr ?_; (case hd => rfl); (case hg => rfl); (case hr => first | (go_simp; done) | (go_simp; rfl)); intro gb208 hg w4 hbox hb; have n0_ := Aside0.mk (lb_ BK206 hb); have n1_ := Aside0.mk (lb_ BK207 hb); have n2_ := Aside0.mk (below_step (bb2_ HB GE206 GE207) hb); have n3_ := Aside0.mk (hbox); have n4_ := gy_ hg (bb2_ HB GE206 GE207); have n5_ := gy_ hg (bb2_ HB GE206 GE207); have n6_ := nl_ hg BK206; have n7_ := ng_ hg BK206; have n8_ := nl_ hg BK207; have n9_ := ng_ hg BK207; clear BK206; clear BK207; clear HB; have BK206 := n0_; have BK207 := n1_; have HB := n2_; have BK208 := n3_; have GW208 := n4_; have GE208 := n5_; have NB206_208 := n6_; have NB208_206 := n7_; have NB207_208 := n8_; have NB208_207 := n9_; clear n0_ n1_ n2_ n3_ n4_ n5_ n6_ n7_ n8_ n9_; clear hb hbox hg; have hnb5 := NB206_207.out; have hnc5 := NB207_206.out; have hnb6 := NB206_208.out; have hnc6 := NB208_206.out; have hcz7_0 := cz0_ BK206; have hcz7_1 := cz1_ BK206; have hnb8 := NB208_207.out; have hnc8 := NB207_208.out; have hcz9_0 := cz0_ BK208; have hcz9_1 := cz1_ BK208; have hfz9_0 := fz_ BK208 0; have hfz9_1 := fz_ BK208 1; have hcz10_0 := cz0_ BK207; have hcz10_1 := cz1_ BK207; have hfz10_0 := fz_ BK207 0; have hfz10_1 := fz_ BK207 1))
 refine bodyPost_ret (results_cell_row rfl _ _ gb207 36 #[.int .i64 a0_0, .int .i64 a0_1] (0, 0) _ rfl (by (with_reducible repeat (first | apply lN_ | apply lD_ | apply lA_)); refine blk_put (cs := #[.int .i64 a0_0, .int .i64 0]) ?_ 1 _ rfl; (with_reducible repeat (first | apply lN_ | apply lD_ | apply lA_)); refine blk_put (cs := #[.int .i64 0, .int .i64 0]) ?_ 0 _ rfl; (with_reducible repeat (first | apply lN_ | apply lD_ | apply lA_)); refine blk_far ?_ NB207_208.out _; (with_reducible repeat (first | apply lN_ | apply lD_ | apply lA_)); refine blk_far ?_ NB207_208.out _; (with_reducible repeat (first | apply lN_ | apply lD_ | apply lA_)); exact BK207.out) Tryz.underlying36 rfl (by kernel_rfl)) rfl ?_
 exact ⟨by first | rfl | (simp [errW_none, errW_some] <;> rfl) | (simp [*, errW_none, errW_some] <;> rfl), bb3_ HB GE206 GE207 GE208⟩

/-! ### laws_toPlace: function 31 -/
def laws_toPlace.f (a0_0 : Int) (a0_1 : Int) (a0_2 : Bool) : Option (Int × Int × Bool) := some (a0_0, a0_1, a0_2)
set_option maxHeartbeats 8000000 in
set_option maxRecDepth 100000 in
theorem laws_toPlace.calls (a0_0 : Int) (a0_1 : Int) (a0_2 : Bool) (r1 : Int) (r2 : Int) (r3 : Bool) (w : World) (h : laws_toPlace.f a0_0 a0_1 a0_2 = some (r1, r2, r3)) :
  Calls Tryz.prog 31 #[.agg #[.int .i64 a0_0, .int .i64 a0_1, .bool a0_2]] w fun e w' => e = .returned (.agg #[.int .i64 r1, .int .i64 r2, .bool r3]) ∧ Below w.heap.size w w' := by
 have hu27 := Tryz.underlying27
 have hu37 := Tryz.underlying37
 have HB := Aside0.mk (Below.refl w.heap.size w)
 have H : (some (a0_0, a0_1, a0_2)) = some (r1, r2, r3) := h
 clear h
 simp only [Option.some.injEq, Prod.mk.injEq] at H
 obtain ⟨rfl, rfl, rfl⟩ := H
 go_enter Tryz.func31, Tryz.ntmps31
 go_wp2_with (first | ((with_reducible refine gate_dst (N := 1) rfl ?_); refine box_event ?hg (N := 1) ?hd (cs := #[.int .i64 a0_0, .int .i64 a0_1, .bool a0_2]) (t := 27) ?hr ?_; (case hd => rfl); (case hg => rfl); (case hr => first | (go_simp; done) | (go_simp; rfl)); intro gb209 hg w2 hbox hb; have n0_ := Aside0.mk (bt_ HB hb); have n1_ := Aside0.mk (hbox); have n2_ := gz_ hg HB; have n3_ := gz_ hg HB; clear HB; have HB := n0_; have BK209 := n1_; have GW209 := n2_; have GE209 := n3_; clear n0_ n1_ n2_ n3_; clear hb hbox hg) | ((with_reducible refine gate_dst (N := 2) rfl ?_); refine box_event ?hg (N := 2) ?hd (cs := #[.int .i64 0, .int .i64 0, .bool false]) (t := 37) ?hr ?_; (case hd => rfl); (case hg => rfl); (case hr => first | (go_simp; done) | (go_simp; rfl)); intro gb210 hg w3 hbox hb; have n0_ := Aside0.mk (lb_ BK209 hb); have n1_ := Aside0.mk (below_step (bb1_ HB GE209) hb); have n2_ := Aside0.mk (hbox); have n3_ := gy_ hg (bb1_ HB GE209); have n4_ := gy_ hg (bb1_ HB GE209); have n5_ := nl_ hg BK209; have n6_ := ng_ hg BK209; clear BK209; clear HB; have BK209 := n0_; have HB := n1_; have BK210 := n2_; have GW210 := n3_; have GE210 := n4_; have NB209_210 := n5_; have NB210_209 := n6_; clear n0_ n1_ n2_ n3_ n4_ n5_ n6_; clear hb hbox hg) | ((with_reducible refine gate_dst (N := 3) rfl ?_); refine box_event ?hg (N := 3) ?hd (cs := #[.int .i64 0, .int .i64 0, .bool false]) (t := 37) ?hr ?_; (case hd => rfl); (case hg => rfl); (case hr => first | (go_simp; done) | (go_simp; rfl)); intro gb211 hg w4 hbox hb; have n0_ := Aside0.mk (lb_ BK209 hb); have n1_ := Aside0.mk (lb_ BK210 hb); have n2_ := Aside0.mk (below_step (bb2_ HB GE209 GE210) hb); have n3_ := Aside0.mk (hbox); have n4_ := gy_ hg (bb2_ HB GE209 GE210); have n5_ := gy_ hg (bb2_ HB GE209 GE210); have n6_ := nl_ hg BK209; have n7_ := ng_ hg BK209; have n8_ := nl_ hg BK210; have n9_ := ng_ hg BK210; clear BK209; clear BK210; clear HB; have BK209 := n0_; have BK210 := n1_; have HB := n2_; have BK211 := n3_; have GW211 := n4_; have GE211 := n5_; have NB209_211 := n6_; have NB211_209 := n7_; have NB210_211 := n8_; have NB211_210 := n9_; clear n0_ n1_ n2_ n3_ n4_ n5_ n6_ n7_ n8_ n9_; clear hb hbox hg; have hnb5 := NB209_210.out; have hnc5 := NB210_209.out; have hnb6 := NB209_211.out; have hnc6 := NB211_209.out; have hcz7_0 := cz0_ BK209; have hcz7_1 := cz1_ BK209; have hcz7_2 := cz2_ BK209; have hnb8 := NB211_210.out; have hnc8 := NB210_211.out; have hcz9_0 := cz0_ BK211; have hcz9_1 := cz1_ BK211; have hcz9_2 := cz2_ BK211; have hfz9_0 := fz_ BK211 0; have hfz9_1 := fz_ BK211 1; have hfz9_2 := fz_ BK211 2; have hcz10_0 := cz0_ BK210; have hcz10_1 := cz1_ BK210; have hcz10_2 := cz2_ BK210; have hfz10_0 := fz_ BK210 0; have hfz10_1 := fz_ BK210 1; have hfz10_2 := fz_ BK210 2))
 refine bodyPost_ret (results_cell_row rfl _ _ gb210 37 #[.int .i64 a0_0, .int .i64 a0_1, .bool a0_2] (0, 0) _ rfl (by (with_reducible repeat (first | apply lN_ | apply lD_ | apply lA_)); refine blk_put (cs := #[.int .i64 a0_0, .int .i64 a0_1, .bool false]) ?_ 2 _ rfl; (with_reducible repeat (first | apply lN_ | apply lD_ | apply lA_)); refine blk_put (cs := #[.int .i64 a0_0, .int .i64 0, .bool false]) ?_ 1 _ rfl; (with_reducible repeat (first | apply lN_ | apply lD_ | apply lA_)); refine blk_put (cs := #[.int .i64 0, .int .i64 0, .bool false]) ?_ 0 _ rfl; (with_reducible repeat (first | apply lN_ | apply lD_ | apply lA_)); refine blk_far ?_ NB210_211.out _; (with_reducible repeat (first | apply lN_ | apply lD_ | apply lA_)); refine blk_far ?_ NB210_211.out _; (with_reducible repeat (first | apply lN_ | apply lD_ | apply lA_)); refine blk_far ?_ NB210_211.out _; (with_reducible repeat (first | apply lN_ | apply lD_ | apply lA_)); exact BK210.out) Tryz.underlying37 rfl (by kernel_rfl)) rfl ?_
 exact ⟨by first | rfl | (simp [errW_none, errW_some] <;> rfl) | (simp [*, errW_none, errW_some] <;> rfl), bb3_ HB GE209 GE210 GE211⟩

/-! ### laws_toMove: function 32 -/
def laws_toMove.f (a0_0 : ByteArray) (a0_1 : Int) : Option (ByteArray × Int) := some (a0_0, a0_1)
set_option maxHeartbeats 8000000 in
set_option maxRecDepth 100000 in
theorem laws_toMove.calls (a0_0 : ByteArray) (a0_1 : Int) (r1 : ByteArray) (r2 : Int) (w : World) (h : laws_toMove.f a0_0 a0_1 = some (r1, r2)) :
  Calls Tryz.prog 32 #[.agg #[.string a0_0, .int .i64 a0_1]] w fun e w' => e = .returned (.agg #[.string r1, .int .i64 r2]) ∧ Below w.heap.size w w' := by
 have hu29 := Tryz.underlying29
 have hu38 := Tryz.underlying38
 have HB := Aside0.mk (Below.refl w.heap.size w)
 have H : (some (a0_0, a0_1)) = some (r1, r2) := h
 clear h
 simp only [Option.some.injEq, Prod.mk.injEq] at H
 obtain ⟨rfl, rfl⟩ := H
 go_enter Tryz.func32, Tryz.ntmps32
 go_wp2_with (first | ((with_reducible refine gate_dst (N := 1) rfl ?_); refine box_event ?hg (N := 1) ?hd (cs := #[.string a0_0, .int .i64 a0_1]) (t := 29) ?hr ?_; (case hd => rfl); (case hg => rfl); (case hr => first | (go_simp; done) | (go_simp; rfl)); intro gb212 hg w2 hbox hb; have n0_ := Aside0.mk (bt_ HB hb); have n1_ := Aside0.mk (hbox); have n2_ := gz_ hg HB; have n3_ := gz_ hg HB; clear HB; have HB := n0_; have BK212 := n1_; have GW212 := n2_; have GE212 := n3_; clear n0_ n1_ n2_ n3_; clear hb hbox hg) | ((with_reducible refine gate_dst (N := 2) rfl ?_); refine box_event ?hg (N := 2) ?hd (cs := #[.string (⟨#[]⟩ : ByteArray), .int .i64 0]) (t := 38) ?hr ?_; (case hd => rfl); (case hg => rfl); (case hr => first | (go_simp; done) | (go_simp; rfl)); intro gb213 hg w3 hbox hb; have n0_ := Aside0.mk (lb_ BK212 hb); have n1_ := Aside0.mk (below_step (bb1_ HB GE212) hb); have n2_ := Aside0.mk (hbox); have n3_ := gy_ hg (bb1_ HB GE212); have n4_ := gy_ hg (bb1_ HB GE212); have n5_ := nl_ hg BK212; have n6_ := ng_ hg BK212; clear BK212; clear HB; have BK212 := n0_; have HB := n1_; have BK213 := n2_; have GW213 := n3_; have GE213 := n4_; have NB212_213 := n5_; have NB213_212 := n6_; clear n0_ n1_ n2_ n3_ n4_ n5_ n6_; clear hb hbox hg) | ((with_reducible refine gate_dst (N := 3) rfl ?_); refine box_event ?hg (N := 3) ?hd (cs := #[.string (⟨#[]⟩ : ByteArray), .int .i64 0]) (t := 38) ?hr ?_; (case hd => rfl); (case hg => rfl); (case hr => first | (go_simp; done) | (go_simp; rfl)); intro gb214 hg w4 hbox hb; have n0_ := Aside0.mk (lb_ BK212 hb); have n1_ := Aside0.mk (blk_below (g := gb213) (o := .cells #[.string (⟨#[]⟩ : ByteArray), .int .i64 0] 38 (0, 0)) (la_ BK213) hb); have n2_ := Aside0.mk (below_step (bb2_ HB GE212 GE213) hb); have n3_ := Aside0.mk (hbox); have n4_ := gy_ hg (bb2_ HB GE212 GE213); have n5_ := gy_ hg (bb2_ HB GE212 GE213); have n6_ := nl_ hg BK212; have n7_ := ng_ hg BK212; have n8_ := Aside0.mk ((by rw [hg]; exact Nat.ne_of_lt (blk_lt (g := gb213) (o := .cells #[.string (⟨#[]⟩ : ByteArray), .int .i64 0] 38 (0, 0)) (la_ BK213)) : gb213 ≠ gb214)); have n9_ := Aside0.mk ((by rw [hg]; exact Nat.ne_of_gt (blk_lt (g := gb213) (o := .cells #[.string (⟨#[]⟩ : ByteArray), .int .i64 0] 38 (0, 0)) (la_ BK213)) : gb214 ≠ gb213)); clear BK212; clear BK213; clear HB; have BK212 := n0_; have BK213 := n1_; have HB := n2_; have BK214 := n3_; have GW214 := n4_; have GE214 := n5_; have NB212_214 := n6_; have NB214_212 := n7_; have NB213_214 := n8_; have NB214_213 := n9_; clear n0_ n1_ n2_ n3_ n4_ n5_ n6_ n7_ n8_ n9_; clear hb hbox hg; have hnb5 := NB212_213.out; have hnc5 := NB213_212.out; have hnb6 := NB212_214.out; have hnc6 := NB214_212.out; have hcz7_0 := cz0_ BK212; have hcz7_1 := cz1_ BK212; have hnb8 := NB214_213.out; have hnc8 := NB213_214.out; have hcz9_0 := cz0_ BK214; have hcz9_1 := cz1_ BK214; have hfz9_0 := fz_ BK214 0; have hfz9_1 := fz_ BK214 1; have hcz10_0 := cz0_ BK213; have hcz10_1 := cz1_ BK213; have hfz10_0 := fz_ BK213 0; have hfz10_1 := fz_ BK213 1))
 refine bodyPost_ret (results_cell_row rfl _ _ gb213 38 #[.string a0_0, .int .i64 a0_1] (0, 0) _ rfl (by (with_reducible repeat (first | apply lN_ | apply lD_ | apply lA_)); refine blk_put (cs := #[.string a0_0, .int .i64 0]) ?_ 1 _ rfl; (with_reducible repeat (first | apply lN_ | apply lD_ | apply lA_)); refine blk_put (cs := #[.string (⟨#[]⟩ : ByteArray), .int .i64 0]) ?_ 0 _ rfl; (with_reducible repeat (first | apply lN_ | apply lD_ | apply lA_)); refine blk_far ?_ NB213_214.out _; (with_reducible repeat (first | apply lN_ | apply lD_ | apply lA_)); refine blk_far ?_ NB213_214.out _; (with_reducible repeat (first | apply lN_ | apply lD_ | apply lA_)); exact BK213.out) Tryz.underlying38 rfl (by kernel_rfl)) rfl ?_
 exact ⟨by first | rfl | (simp [errW_none, errW_some] <;> rfl) | (simp [*, errW_none, errW_some] <;> rfl), bb3_ HB GE212 GE213 GE214⟩

/-! ### laws_toHand: function 11 -/
def laws_toHand.f (a0_0 : Int) (a0_1 : Int) (a0_2 : Int) (a0_3 : Int) (a0_4 : Int) (a0_5 : Bool) (a0_6 : Int) (a0_7 : Int) (a0_8 : Int) (a0_9 : Int) (a0_10 : Bool) (a0_11 : ByteArray) (a0_12 : Int) : Option (Int × Int × Int × Int × Int × Bool × Int × Int × Int × Int × Bool × ByteArray × Int) := (laws_toShape.f a0_0 a0_1 a0_2 a0_3 a0_4 a0_5).bind fun bt218 => ((laws_toOrient.f a0_6 a0_7).bind fun bt224 => ((laws_toPlace.f a0_8 a0_9 a0_10).bind fun bt226 => ((laws_toMove.f a0_11 a0_12).bind fun bt229 => (some (bt218.1, bt218.2.1, bt218.2.2.1, bt218.2.2.2.1, bt218.2.2.2.2.1, bt218.2.2.2.2.2, bt224.1, bt224.2, bt226.1, bt226.2.1, bt226.2.2, bt229.1, bt229.2)))))
set_option maxHeartbeats 8000000 in
set_option maxRecDepth 100000 in
theorem laws_toHand.calls (a0_0 : Int) (a0_1 : Int) (a0_2 : Int) (a0_3 : Int) (a0_4 : Int) (a0_5 : Bool) (a0_6 : Int) (a0_7 : Int) (a0_8 : Int) (a0_9 : Int) (a0_10 : Bool) (a0_11 : ByteArray) (a0_12 : Int) (r1 : Int) (r2 : Int) (r3 : Int) (r4 : Int) (r5 : Int) (r6 : Bool) (r7 : Int) (r8 : Int) (r9 : Int) (r10 : Int) (r11 : Bool) (r12 : ByteArray) (r13 : Int) (w : World) (h : laws_toHand.f a0_0 a0_1 a0_2 a0_3 a0_4 a0_5 a0_6 a0_7 a0_8 a0_9 a0_10 a0_11 a0_12 = some (r1, r2, r3, r4, r5, r6, r7, r8, r9, r10, r11, r12, r13)) :
  Calls Tryz.prog 11 #[.agg #[.int .i64 a0_0, .int .i64 a0_1, .int .i64 a0_2, .int .i64 a0_3, .int .i64 a0_4, .bool a0_5, .int .i64 a0_6, .int .i64 a0_7, .int .i64 a0_8, .int .i64 a0_9, .bool a0_10, .string a0_11, .int .i64 a0_12]] w fun e w' => e = .returned (.agg #[.int .i64 r1, .int .i64 r2, .int .i64 r3, .int .i64 r4, .int .i64 r5, .bool r6, .int .i64 r7, .int .i64 r8, .int .i64 r9, .int .i64 r10, .bool r11, .string r12, .int .i64 r13]) ∧ Below w.heap.size w w' := by
 have hu31 := Tryz.underlying31
 have hu40 := Tryz.underlying40
 have hu23 := Tryz.underlying23
 have hu35 := Tryz.underlying35
 have hu25 := Tryz.underlying25
 have hu36 := Tryz.underlying36
 have hu27 := Tryz.underlying27
 have hu37 := Tryz.underlying37
 have hu29 := Tryz.underlying29
 have hu38 := Tryz.underlying38
 have HB := Aside0.mk (Below.refl w.heap.size w)
 have H : ((laws_toShape.f a0_0 a0_1 a0_2 a0_3 a0_4 a0_5).bind fun bt218 => ((laws_toOrient.f a0_6 a0_7).bind fun bt224 => ((laws_toPlace.f a0_8 a0_9 a0_10).bind fun bt226 => ((laws_toMove.f a0_11 a0_12).bind fun bt229 => (some (bt218.1, bt218.2.1, bt218.2.2.1, bt218.2.2.2.1, bt218.2.2.2.2.1, bt218.2.2.2.2.2, bt224.1, bt224.2, bt226.1, bt226.2.1, bt226.2.2, bt229.1, bt229.2)))))) = some (r1, r2, r3, r4, r5, r6, r7, r8, r9, r10, r11, r12, r13) := h
 clear h
 replace H := Option.bind_eq_some_iff.mp H
 obtain ⟨⟨t218, t219, t220, t221, t222, t223⟩, A20, H⟩ := H
 try dsimp only at H
 have A2 := Aside0.mk A20
 clear A20
 replace H := Option.bind_eq_some_iff.mp H
 obtain ⟨⟨t224, t225⟩, A30, H⟩ := H
 try dsimp only at H
 have A3 := Aside0.mk A30
 clear A30
 replace H := Option.bind_eq_some_iff.mp H
 obtain ⟨⟨t226, t227, t228⟩, A40, H⟩ := H
 try dsimp only at H
 have A4 := Aside0.mk A40
 clear A40
 replace H := Option.bind_eq_some_iff.mp H
 obtain ⟨⟨t229, t230⟩, A50, H⟩ := H
 try dsimp only at H
 have A5 := Aside0.mk A50
 clear A50
 simp only [Option.some.injEq, Prod.mk.injEq] at H
 obtain ⟨rfl, rfl, rfl, rfl, rfl, rfl, rfl, rfl, rfl, rfl, rfl, rfl, rfl⟩ := H
 go_enter Tryz.func11, Tryz.ntmps11
 go_wp2_with (first | ((with_reducible refine gate_dst (N := 1) rfl ?_); refine box_event ?hg (N := 1) ?hd (cs := #[.int .i64 a0_0, .int .i64 a0_1, .int .i64 a0_2, .int .i64 a0_3, .int .i64 a0_4, .bool a0_5, .int .i64 a0_6, .int .i64 a0_7, .int .i64 a0_8, .int .i64 a0_9, .bool a0_10, .string a0_11, .int .i64 a0_12]) (t := 31) ?hr ?_; (case hd => rfl); (case hg => rfl); (case hr => first | (go_simp; done) | (go_simp; rfl)); intro gb215 hg w6 hbox hb; have n0_ := Aside0.mk (bt_ HB hb); have n1_ := Aside0.mk (hbox); have n2_ := gz_ hg HB; have n3_ := gz_ hg HB; clear HB; have HB := n0_; have BK215 := n1_; have GW215 := n2_; have GE215 := n3_; clear n0_ n1_ n2_ n3_; clear hb hbox hg) | ((with_reducible refine gate_dst (N := 2) rfl ?_); refine box_event ?hg (N := 2) ?hd (cs := #[.int .i64 0, .int .i64 0, .int .i64 0, .int .i64 0, .int .i64 0, .bool false, .int .i64 0, .int .i64 0, .int .i64 0, .int .i64 0, .bool false, .string (⟨#[]⟩ : ByteArray), .int .i64 0]) (t := 40) ?hr ?_; (case hd => rfl); (case hg => rfl); (case hr => first | (go_simp; done) | (go_simp; rfl)); intro gb216 hg w7 hbox hb; have n0_ := Aside0.mk (lb_ BK215 hb); have n1_ := Aside0.mk (below_step (bb1_ HB GE215) hb); have n2_ := Aside0.mk (hbox); have n3_ := gy_ hg (bb1_ HB GE215); have n4_ := gy_ hg (bb1_ HB GE215); have n5_ := nl_ hg BK215; have n6_ := ng_ hg BK215; clear BK215; clear HB; have BK215 := n0_; have HB := n1_; have BK216 := n2_; have GW216 := n3_; have GE216 := n4_; have NB215_216 := n5_; have NB216_215 := n6_; clear n0_ n1_ n2_ n3_ n4_ n5_ n6_; clear hb hbox hg) | ((with_reducible refine gate_dst (N := 3) rfl ?_); refine box_event ?hg (N := 3) ?hd (cs := #[.int .i64 0, .int .i64 0, .int .i64 0, .int .i64 0, .int .i64 0, .bool false, .int .i64 0, .int .i64 0, .int .i64 0, .int .i64 0, .bool false, .string (⟨#[]⟩ : ByteArray), .int .i64 0]) (t := 40) ?hr ?_; (case hd => rfl); (case hg => rfl); (case hr => first | (go_simp; done) | (go_simp; rfl)); intro gb217 hg w8 hbox hb; have n0_ := Aside0.mk (lb_ BK215 hb); have n1_ := Aside0.mk (blk_below (g := gb216) (o := .cells #[.int .i64 0, .int .i64 0, .int .i64 0, .int .i64 0, .int .i64 0, .bool false, .int .i64 0, .int .i64 0, .int .i64 0, .int .i64 0, .bool false, .string (⟨#[]⟩ : ByteArray), .int .i64 0] 40 (0, 0)) (la_ BK216) hb); have n2_ := Aside0.mk (below_step (bb2_ HB GE215 GE216) hb); have n3_ := Aside0.mk (hbox); have n4_ := gy_ hg (bb2_ HB GE215 GE216); have n5_ := gy_ hg (bb2_ HB GE215 GE216); have n6_ := nl_ hg BK215; have n7_ := ng_ hg BK215; have n8_ := Aside0.mk ((by rw [hg]; exact Nat.ne_of_lt (blk_lt (g := gb216) (o := .cells #[.int .i64 0, .int .i64 0, .int .i64 0, .int .i64 0, .int .i64 0, .bool false, .int .i64 0, .int .i64 0, .int .i64 0, .int .i64 0, .bool false, .string (⟨#[]⟩ : ByteArray), .int .i64 0] 40 (0, 0)) (la_ BK216)) : gb216 ≠ gb217)); have n9_ := Aside0.mk ((by rw [hg]; exact Nat.ne_of_gt (blk_lt (g := gb216) (o := .cells #[.int .i64 0, .int .i64 0, .int .i64 0, .int .i64 0, .int .i64 0, .bool false, .int .i64 0, .int .i64 0, .int .i64 0, .int .i64 0, .bool false, .string (⟨#[]⟩ : ByteArray), .int .i64 0] 40 (0, 0)) (la_ BK216)) : gb217 ≠ gb216)); clear BK215; clear BK216; clear HB; have BK215 := n0_; have BK216 := n1_; have HB := n2_; have BK217 := n3_; have GW217 := n4_; have GE217 := n5_; have NB215_217 := n6_; have NB217_215 := n7_; have NB216_217 := n8_; have NB217_216 := n9_; clear n0_ n1_ n2_ n3_ n4_ n5_ n6_ n7_ n8_ n9_; clear hb hbox hg; have hnb9 := NB215_216.out; have hnc9 := NB216_215.out; have hnb10 := NB215_217.out; have hnc10 := NB217_215.out; have hcz11_0 := cz0_ BK215; have hcz11_1 := cz1_ BK215; have hcz11_2 := cz2_ BK215; have hcz11_3 := cz3_ BK215; have hcz11_4 := cz4_ BK215; have hcz11_5 := cz5_ BK215; have hcz11_6 := cz6_ BK215; have hcz11_7 := cz7_ BK215; have hcz11_8 := cz8_ BK215; have hcz11_9 := cz9_ BK215; have hcz11_10 := cz10_ BK215; have hcz11_11 := cz11_ BK215; have hcz11_12 := cz12_ BK215) | ((with_reducible refine gate_callee (f := 29) rfl ?_); refine goesL_ (some 6) rfl rfl Tryz.func29 (by kernel_rfl) rfl #[.agg #[.int .i64 a0_0, .int .i64 a0_1, .int .i64 a0_2, .int .i64 a0_3, .int .i64 a0_4, .bool a0_5]] rfl args_ ?_; (with_reducible refine (laws_toShape.calls a0_0 a0_1 a0_2 a0_3 a0_4 a0_5 t218 t219 t220 t221 t222 t223 _ A2.out).mono ?_); rintro e w12 ⟨rfl, hb⟩; refine ⟨_, rfl, ?_⟩; have n0_ := Aside0.mk (lb_ BK215 hb); have n1_ := Aside0.mk (blk_below (g := gb216) (o := .cells #[.int .i64 0, .int .i64 0, .int .i64 0, .int .i64 0, .int .i64 0, .bool false, .int .i64 0, .int .i64 0, .int .i64 0, .int .i64 0, .bool false, .string (⟨#[]⟩ : ByteArray), .int .i64 0] 40 (0, 0)) (la_ BK216) hb); have n2_ := Aside0.mk (blk_below (g := gb217) (o := .cells #[.int .i64 0, .int .i64 0, .int .i64 0, .int .i64 0, .int .i64 0, .bool false, .int .i64 0, .int .i64 0, .int .i64 0, .int .i64 0, .bool false, .string (⟨#[]⟩ : ByteArray), .int .i64 0] 40 (0, 0)) (la_ BK217) hb); have n3_ := Aside0.mk (below_step (bb3_ HB GE215 GE216 GE217) hb); clear BK215; clear BK216; clear BK217; clear HB; have BK215 := n0_; have BK216 := n1_; have BK217 := n2_; have HB := n3_; clear n0_ n1_ n2_ n3_; (try clear hb); (try clear hb2); (try clear hk); (try clear hi); have hnb13 := NB217_216.out; have hnc13 := NB216_217.out; have hcz14_0 := cz0_ BK217; have hcz14_1 := cz1_ BK217; have hcz14_2 := cz2_ BK217; have hcz14_3 := cz3_ BK217; have hcz14_4 := cz4_ BK217; have hcz14_5 := cz5_ BK217; have hcz14_6 := cz6_ BK217; have hcz14_7 := cz7_ BK217; have hcz14_8 := cz8_ BK217; have hcz14_9 := cz9_ BK217; have hcz14_10 := cz10_ BK217; have hcz14_11 := cz11_ BK217; have hcz14_12 := cz12_ BK217; have hfz14_0 := fz_ BK217 0; have hfz14_1 := fz_ BK217 1; have hfz14_2 := fz_ BK217 2; have hfz14_3 := fz_ BK217 3; have hfz14_4 := fz_ BK217 4; have hfz14_5 := fz_ BK217 5; have hfz14_6 := fz_ BK217 6; have hfz14_7 := fz_ BK217 7; have hfz14_8 := fz_ BK217 8; have hfz14_9 := fz_ BK217 9; have hfz14_10 := fz_ BK217 10; have hfz14_11 := fz_ BK217 11; have hfz14_12 := fz_ BK217 12; have hcz15_0 := cz0_ BK215; have hcz15_1 := cz1_ BK215; have hcz15_2 := cz2_ BK215; have hcz15_3 := cz3_ BK215; have hcz15_4 := cz4_ BK215; have hcz15_5 := cz5_ BK215; have hcz15_6 := cz6_ BK215; have hcz15_7 := cz7_ BK215; have hcz15_8 := cz8_ BK215; have hcz15_9 := cz9_ BK215; have hcz15_10 := cz10_ BK215; have hcz15_11 := cz11_ BK215; have hcz15_12 := cz12_ BK215) | ((with_reducible refine gate_callee (f := 30) rfl ?_); refine goesL_ (some 10) rfl rfl Tryz.func30 (by kernel_rfl) rfl #[.agg #[.int .i64 a0_6, .int .i64 a0_7]] rfl args_ ?_; (with_reducible refine (laws_toOrient.calls a0_6 a0_7 t224 t225 _ A3.out).mono ?_); rintro e w16 ⟨rfl, hb⟩; refine ⟨_, rfl, ?_⟩; have n0_ := Aside0.mk (blk_below (g := gb215) (o := .cells #[.int .i64 a0_0, .int .i64 a0_1, .int .i64 a0_2, .int .i64 a0_3, .int .i64 a0_4, .bool a0_5, .int .i64 a0_6, .int .i64 a0_7, .int .i64 a0_8, .int .i64 a0_9, .bool a0_10, .string a0_11, .int .i64 a0_12] 31 (0, 0)) (by (with_reducible repeat (first | apply lN_ | apply lD_ | apply lA_)); refine blk_far ?_ NB215_217.out _; (with_reducible repeat (first | apply lN_ | apply lD_ | apply lA_)); refine blk_far ?_ NB215_217.out _; (with_reducible repeat (first | apply lN_ | apply lD_ | apply lA_)); refine blk_far ?_ NB215_217.out _; (with_reducible repeat (first | apply lN_ | apply lD_ | apply lA_)); refine blk_far ?_ NB215_217.out _; (with_reducible repeat (first | apply lN_ | apply lD_ | apply lA_)); refine blk_far ?_ NB215_217.out _; (with_reducible repeat (first | apply lN_ | apply lD_ | apply lA_)); refine blk_far ?_ NB215_217.out _; (with_reducible repeat (first | apply lN_ | apply lD_ | apply lA_)); exact BK215.out) hb); have n1_ := Aside0.mk (blk_below (g := gb216) (o := .cells #[.int .i64 0, .int .i64 0, .int .i64 0, .int .i64 0, .int .i64 0, .bool false, .int .i64 0, .int .i64 0, .int .i64 0, .int .i64 0, .bool false, .string (⟨#[]⟩ : ByteArray), .int .i64 0] 40 (0, 0)) (by (with_reducible repeat (first | apply lN_ | apply lD_ | apply lA_)); refine blk_far ?_ NB216_217.out _; (with_reducible repeat (first | apply lN_ | apply lD_ | apply lA_)); refine blk_far ?_ NB216_217.out _; (with_reducible repeat (first | apply lN_ | apply lD_ | apply lA_)); refine blk_far ?_ NB216_217.out _; (with_reducible repeat (first | apply lN_ | apply lD_ | apply lA_)); refine blk_far ?_ NB216_217.out _; (with_reducible repeat (first | apply lN_ | apply lD_ | apply lA_)); refine blk_far ?_ NB216_217.out _; (with_reducible repeat (first | apply lN_ | apply lD_ | apply lA_)); refine blk_far ?_ NB216_217.out _; (with_reducible repeat (first | apply lN_ | apply lD_ | apply lA_)); exact BK216.out) hb); have n2_ := Aside0.mk (blk_below (g := gb217) (o := .cells #[.int .i64 t218, .int .i64 t219, .int .i64 t220, .int .i64 t221, .int .i64 t222, .bool t223, .int .i64 0, .int .i64 0, .int .i64 0, .int .i64 0, .bool false, .string (⟨#[]⟩ : ByteArray), .int .i64 0] 40 (0, 0)) (by (with_reducible repeat (first | apply lN_ | apply lD_ | apply lA_)); refine blk_put (cs := #[.int .i64 t218, .int .i64 t219, .int .i64 t220, .int .i64 t221, .int .i64 t222, .bool false, .int .i64 0, .int .i64 0, .int .i64 0, .int .i64 0, .bool false, .string (⟨#[]⟩ : ByteArray), .int .i64 0]) ?_ 5 _ rfl; (with_reducible repeat (first | apply lN_ | apply lD_ | apply lA_)); refine blk_put (cs := #[.int .i64 t218, .int .i64 t219, .int .i64 t220, .int .i64 t221, .int .i64 0, .bool false, .int .i64 0, .int .i64 0, .int .i64 0, .int .i64 0, .bool false, .string (⟨#[]⟩ : ByteArray), .int .i64 0]) ?_ 4 _ rfl; (with_reducible repeat (first | apply lN_ | apply lD_ | apply lA_)); refine blk_put (cs := #[.int .i64 t218, .int .i64 t219, .int .i64 t220, .int .i64 0, .int .i64 0, .bool false, .int .i64 0, .int .i64 0, .int .i64 0, .int .i64 0, .bool false, .string (⟨#[]⟩ : ByteArray), .int .i64 0]) ?_ 3 _ rfl; (with_reducible repeat (first | apply lN_ | apply lD_ | apply lA_)); refine blk_put (cs := #[.int .i64 t218, .int .i64 t219, .int .i64 0, .int .i64 0, .int .i64 0, .bool false, .int .i64 0, .int .i64 0, .int .i64 0, .int .i64 0, .bool false, .string (⟨#[]⟩ : ByteArray), .int .i64 0]) ?_ 2 _ rfl; (with_reducible repeat (first | apply lN_ | apply lD_ | apply lA_)); refine blk_put (cs := #[.int .i64 t218, .int .i64 0, .int .i64 0, .int .i64 0, .int .i64 0, .bool false, .int .i64 0, .int .i64 0, .int .i64 0, .int .i64 0, .bool false, .string (⟨#[]⟩ : ByteArray), .int .i64 0]) ?_ 1 _ rfl; (with_reducible repeat (first | apply lN_ | apply lD_ | apply lA_)); refine blk_put (cs := #[.int .i64 0, .int .i64 0, .int .i64 0, .int .i64 0, .int .i64 0, .bool false, .int .i64 0, .int .i64 0, .int .i64 0, .int .i64 0, .bool false, .string (⟨#[]⟩ : ByteArray), .int .i64 0]) ?_ 0 _ rfl; (with_reducible repeat (first | apply lN_ | apply lD_ | apply lA_)); exact BK217.out) hb); have n3_ := Aside0.mk (below_step (bb3_ HB GE215 GE216 GE217) hb); clear BK215; clear BK216; clear BK217; clear HB; have BK215 := n0_; have BK216 := n1_; have BK217 := n2_; have HB := n3_; clear n0_ n1_ n2_ n3_; (try clear hb); (try clear hb2); (try clear hk); (try clear hi); have hcz17_0 := cz0_ BK217; have hcz17_1 := cz1_ BK217; have hcz17_2 := cz2_ BK217; have hcz17_3 := cz3_ BK217; have hcz17_4 := cz4_ BK217; have hcz17_5 := cz5_ BK217; have hcz17_6 := cz6_ BK217; have hcz17_7 := cz7_ BK217; have hcz17_8 := cz8_ BK217; have hcz17_9 := cz9_ BK217; have hcz17_10 := cz10_ BK217; have hcz17_11 := cz11_ BK217; have hcz17_12 := cz12_ BK217; have hfz17_0 := fz_ BK217 0; have hfz17_1 := fz_ BK217 1; have hfz17_2 := fz_ BK217 2; have hfz17_3 := fz_ BK217 3; have hfz17_4 := fz_ BK217 4; have hfz17_5 := fz_ BK217 5; have hfz17_6 := fz_ BK217 6; have hfz17_7 := fz_ BK217 7; have hfz17_8 := fz_ BK217 8; have hfz17_9 := fz_ BK217 9; have hfz17_10 := fz_ BK217 10; have hfz17_11 := fz_ BK217 11; have hfz17_12 := fz_ BK217 12; have hcz18_0 := cz0_ BK215; have hcz18_1 := cz1_ BK215; have hcz18_2 := cz2_ BK215; have hcz18_3 := cz3_ BK215; have hcz18_4 := cz4_ BK215; have hcz18_5 := cz5_ BK215; have hcz18_6 := cz6_ BK215; have hcz18_7 := cz7_ BK215; have hcz18_8 := cz8_ BK215; have hcz18_9 := cz9_ BK215; have hcz18_10 := cz10_ BK215; have hcz18_11 := cz11_ BK215; have hcz18_12 := cz12_ BK215) | ((with_reducible refine gate_callee (f := 31) rfl ?_); refine goesL_ (some 14) rfl rfl Tryz.func31 (by kernel_rfl) rfl #[.agg #[.int .i64 a0_8, .int .i64 a0_9, .bool a0_10]] rfl args_ ?_; (with_reducible refine (laws_toPlace.calls a0_8 a0_9 a0_10 t226 t227 t228 _ A4.out).mono ?_); rintro e w19 ⟨rfl, hb⟩; refine ⟨_, rfl, ?_⟩; have n0_ := Aside0.mk (blk_below (g := gb215) (o := .cells #[.int .i64 a0_0, .int .i64 a0_1, .int .i64 a0_2, .int .i64 a0_3, .int .i64 a0_4, .bool a0_5, .int .i64 a0_6, .int .i64 a0_7, .int .i64 a0_8, .int .i64 a0_9, .bool a0_10, .string a0_11, .int .i64 a0_12] 31 (0, 0)) (by (with_reducible repeat (first | apply lN_ | apply lD_ | apply lA_)); refine blk_far ?_ NB215_217.out _; (with_reducible repeat (first | apply lN_ | apply lD_ | apply lA_)); refine blk_far ?_ NB215_217.out _; (with_reducible repeat (first | apply lN_ | apply lD_ | apply lA_)); exact BK215.out) hb); have n1_ := Aside0.mk (blk_below (g := gb216) (o := .cells #[.int .i64 0, .int .i64 0, .int .i64 0, .int .i64 0, .int .i64 0, .bool false, .int .i64 0, .int .i64 0, .int .i64 0, .int .i64 0, .bool false, .string (⟨#[]⟩ : ByteArray), .int .i64 0] 40 (0, 0)) (by (with_reducible repeat (first | apply lN_ | apply lD_ | apply lA_)); refine blk_far ?_ NB216_217.out _; (with_reducible repeat (first | apply lN_ | apply lD_ | apply lA_)); refine blk_far ?_ NB216_217.out _; (with_reducible repeat (first | apply lN_ | apply lD_ | apply lA_)); exact BK216.out) hb); have n2_ := Aside0.mk (blk_below (g := gb217) (o := .cells #[.int .i64 t218, .int .i64 t219, .int .i64 t220, .int .i64 t221, .int .i64 t222, .bool t223, .int .i64 t224, .int .i64 t225, .int .i64 0, .int .i64 0, .bool false, .string (⟨#[]⟩ : ByteArray), .int .i64 0] 40 (0, 0)) (by (with_reducible repeat (first | apply lN_ | apply lD_ | apply lA_)); refine blk_put (cs := #[.int .i64 t218, .int .i64 t219, .int .i64 t220, .int .i64 t221, .int .i64 t222, .bool t223, .int .i64 t224, .int .i64 0, .int .i64 0, .int .i64 0, .bool false, .string (⟨#[]⟩ : ByteArray), .int .i64 0]) ?_ 7 _ rfl; (with_reducible repeat (first | apply lN_ | apply lD_ | apply lA_)); refine blk_put (cs := #[.int .i64 t218, .int .i64 t219, .int .i64 t220, .int .i64 t221, .int .i64 t222, .bool t223, .int .i64 0, .int .i64 0, .int .i64 0, .int .i64 0, .bool false, .string (⟨#[]⟩ : ByteArray), .int .i64 0]) ?_ 6 _ rfl; (with_reducible repeat (first | apply lN_ | apply lD_ | apply lA_)); exact BK217.out) hb); have n3_ := Aside0.mk (below_step (bb3_ HB GE215 GE216 GE217) hb); clear BK215; clear BK216; clear BK217; clear HB; have BK215 := n0_; have BK216 := n1_; have BK217 := n2_; have HB := n3_; clear n0_ n1_ n2_ n3_; (try clear hb); (try clear hb2); (try clear hk); (try clear hi); have hcz20_0 := cz0_ BK217; have hcz20_1 := cz1_ BK217; have hcz20_2 := cz2_ BK217; have hcz20_3 := cz3_ BK217; have hcz20_4 := cz4_ BK217; have hcz20_5 := cz5_ BK217; have hcz20_6 := cz6_ BK217; have hcz20_7 := cz7_ BK217; have hcz20_8 := cz8_ BK217; have hcz20_9 := cz9_ BK217; have hcz20_10 := cz10_ BK217; have hcz20_11 := cz11_ BK217; have hcz20_12 := cz12_ BK217; have hfz20_0 := fz_ BK217 0; have hfz20_1 := fz_ BK217 1; have hfz20_2 := fz_ BK217 2; have hfz20_3 := fz_ BK217 3; have hfz20_4 := fz_ BK217 4; have hfz20_5 := fz_ BK217 5; have hfz20_6 := fz_ BK217 6; have hfz20_7 := fz_ BK217 7; have hfz20_8 := fz_ BK217 8; have hfz20_9 := fz_ BK217 9; have hfz20_10 := fz_ BK217 10; have hfz20_11 := fz_ BK217 11; have hfz20_12 := fz_ BK217 12; have hcz21_0 := cz0_ BK215; have hcz21_1 := cz1_ BK215; have hcz21_2 := cz2_ BK215; have hcz21_3 := cz3_ BK215; have hcz21_4 := cz4_ BK215; have hcz21_5 := cz5_ BK215; have hcz21_6 := cz6_ BK215; have hcz21_7 := cz7_ BK215; have hcz21_8 := cz8_ BK215; have hcz21_9 := cz9_ BK215; have hcz21_10 := cz10_ BK215; have hcz21_11 := cz11_ BK215; have hcz21_12 := cz12_ BK215) | ((with_reducible refine gate_callee (f := 32) rfl ?_); refine goesL_ (some 18) rfl rfl Tryz.func32 (by kernel_rfl) rfl #[.agg #[.string a0_11, .int .i64 a0_12]] rfl args_ ?_; (with_reducible refine (laws_toMove.calls a0_11 a0_12 t229 t230 _ A5.out).mono ?_); rintro e w22 ⟨rfl, hb⟩; refine ⟨_, rfl, ?_⟩; have n0_ := Aside0.mk (blk_below (g := gb215) (o := .cells #[.int .i64 a0_0, .int .i64 a0_1, .int .i64 a0_2, .int .i64 a0_3, .int .i64 a0_4, .bool a0_5, .int .i64 a0_6, .int .i64 a0_7, .int .i64 a0_8, .int .i64 a0_9, .bool a0_10, .string a0_11, .int .i64 a0_12] 31 (0, 0)) (by (with_reducible repeat (first | apply lN_ | apply lD_ | apply lA_)); refine blk_far ?_ NB215_217.out _; (with_reducible repeat (first | apply lN_ | apply lD_ | apply lA_)); refine blk_far ?_ NB215_217.out _; (with_reducible repeat (first | apply lN_ | apply lD_ | apply lA_)); refine blk_far ?_ NB215_217.out _; (with_reducible repeat (first | apply lN_ | apply lD_ | apply lA_)); exact BK215.out) hb); have n1_ := Aside0.mk (blk_below (g := gb216) (o := .cells #[.int .i64 0, .int .i64 0, .int .i64 0, .int .i64 0, .int .i64 0, .bool false, .int .i64 0, .int .i64 0, .int .i64 0, .int .i64 0, .bool false, .string (⟨#[]⟩ : ByteArray), .int .i64 0] 40 (0, 0)) (by (with_reducible repeat (first | apply lN_ | apply lD_ | apply lA_)); refine blk_far ?_ NB216_217.out _; (with_reducible repeat (first | apply lN_ | apply lD_ | apply lA_)); refine blk_far ?_ NB216_217.out _; (with_reducible repeat (first | apply lN_ | apply lD_ | apply lA_)); refine blk_far ?_ NB216_217.out _; (with_reducible repeat (first | apply lN_ | apply lD_ | apply lA_)); exact BK216.out) hb); have n2_ := Aside0.mk (blk_below (g := gb217) (o := .cells #[.int .i64 t218, .int .i64 t219, .int .i64 t220, .int .i64 t221, .int .i64 t222, .bool t223, .int .i64 t224, .int .i64 t225, .int .i64 t226, .int .i64 t227, .bool t228, .string (⟨#[]⟩ : ByteArray), .int .i64 0] 40 (0, 0)) (by (with_reducible repeat (first | apply lN_ | apply lD_ | apply lA_)); refine blk_put (cs := #[.int .i64 t218, .int .i64 t219, .int .i64 t220, .int .i64 t221, .int .i64 t222, .bool t223, .int .i64 t224, .int .i64 t225, .int .i64 t226, .int .i64 t227, .bool false, .string (⟨#[]⟩ : ByteArray), .int .i64 0]) ?_ 10 _ rfl; (with_reducible repeat (first | apply lN_ | apply lD_ | apply lA_)); refine blk_put (cs := #[.int .i64 t218, .int .i64 t219, .int .i64 t220, .int .i64 t221, .int .i64 t222, .bool t223, .int .i64 t224, .int .i64 t225, .int .i64 t226, .int .i64 0, .bool false, .string (⟨#[]⟩ : ByteArray), .int .i64 0]) ?_ 9 _ rfl; (with_reducible repeat (first | apply lN_ | apply lD_ | apply lA_)); refine blk_put (cs := #[.int .i64 t218, .int .i64 t219, .int .i64 t220, .int .i64 t221, .int .i64 t222, .bool t223, .int .i64 t224, .int .i64 t225, .int .i64 0, .int .i64 0, .bool false, .string (⟨#[]⟩ : ByteArray), .int .i64 0]) ?_ 8 _ rfl; (with_reducible repeat (first | apply lN_ | apply lD_ | apply lA_)); exact BK217.out) hb); have n3_ := Aside0.mk (below_step (bb3_ HB GE215 GE216 GE217) hb); clear BK215; clear BK216; clear BK217; clear HB; have BK215 := n0_; have BK216 := n1_; have BK217 := n2_; have HB := n3_; clear n0_ n1_ n2_ n3_; (try clear hb); (try clear hb2); (try clear hk); (try clear hi); have hcz23_0 := cz0_ BK217; have hcz23_1 := cz1_ BK217; have hcz23_2 := cz2_ BK217; have hcz23_3 := cz3_ BK217; have hcz23_4 := cz4_ BK217; have hcz23_5 := cz5_ BK217; have hcz23_6 := cz6_ BK217; have hcz23_7 := cz7_ BK217; have hcz23_8 := cz8_ BK217; have hcz23_9 := cz9_ BK217; have hcz23_10 := cz10_ BK217; have hcz23_11 := cz11_ BK217; have hcz23_12 := cz12_ BK217; have hfz23_0 := fz_ BK217 0; have hfz23_1 := fz_ BK217 1; have hfz23_2 := fz_ BK217 2; have hfz23_3 := fz_ BK217 3; have hfz23_4 := fz_ BK217 4; have hfz23_5 := fz_ BK217 5; have hfz23_6 := fz_ BK217 6; have hfz23_7 := fz_ BK217 7; have hfz23_8 := fz_ BK217 8; have hfz23_9 := fz_ BK217 9; have hfz23_10 := fz_ BK217 10; have hfz23_11 := fz_ BK217 11; have hfz23_12 := fz_ BK217 12; have hcz24_0 := cz0_ BK216; have hcz24_1 := cz1_ BK216; have hcz24_2 := cz2_ BK216; have hcz24_3 := cz3_ BK216; have hcz24_4 := cz4_ BK216; have hcz24_5 := cz5_ BK216; have hcz24_6 := cz6_ BK216; have hcz24_7 := cz7_ BK216; have hcz24_8 := cz8_ BK216; have hcz24_9 := cz9_ BK216; have hcz24_10 := cz10_ BK216; have hcz24_11 := cz11_ BK216; have hcz24_12 := cz12_ BK216; have hfz24_0 := fz_ BK216 0; have hfz24_1 := fz_ BK216 1; have hfz24_2 := fz_ BK216 2; have hfz24_3 := fz_ BK216 3; have hfz24_4 := fz_ BK216 4; have hfz24_5 := fz_ BK216 5; have hfz24_6 := fz_ BK216 6; have hfz24_7 := fz_ BK216 7; have hfz24_8 := fz_ BK216 8; have hfz24_9 := fz_ BK216 9; have hfz24_10 := fz_ BK216 10; have hfz24_11 := fz_ BK216 11; have hfz24_12 := fz_ BK216 12))
 refine bodyPost_ret (results_cell_row rfl _ _ gb216 40 #[.int .i64 t218, .int .i64 t219, .int .i64 t220, .int .i64 t221, .int .i64 t222, .bool t223, .int .i64 t224, .int .i64 t225, .int .i64 t226, .int .i64 t227, .bool t228, .string t229, .int .i64 t230] (0, 0) _ rfl (by (with_reducible repeat (first | apply lN_ | apply lD_ | apply lA_)); refine blk_put (cs := #[.int .i64 t218, .int .i64 t219, .int .i64 t220, .int .i64 t221, .int .i64 t222, .bool t223, .int .i64 t224, .int .i64 t225, .int .i64 t226, .int .i64 t227, .bool t228, .string t229, .int .i64 0]) ?_ 12 _ rfl; (with_reducible repeat (first | apply lN_ | apply lD_ | apply lA_)); refine blk_put (cs := #[.int .i64 t218, .int .i64 t219, .int .i64 t220, .int .i64 t221, .int .i64 t222, .bool t223, .int .i64 t224, .int .i64 t225, .int .i64 t226, .int .i64 t227, .bool t228, .string (⟨#[]⟩ : ByteArray), .int .i64 0]) ?_ 11 _ rfl; (with_reducible repeat (first | apply lN_ | apply lD_ | apply lA_)); refine blk_put (cs := #[.int .i64 t218, .int .i64 t219, .int .i64 t220, .int .i64 t221, .int .i64 t222, .bool t223, .int .i64 t224, .int .i64 t225, .int .i64 t226, .int .i64 t227, .bool false, .string (⟨#[]⟩ : ByteArray), .int .i64 0]) ?_ 10 _ rfl; (with_reducible repeat (first | apply lN_ | apply lD_ | apply lA_)); refine blk_put (cs := #[.int .i64 t218, .int .i64 t219, .int .i64 t220, .int .i64 t221, .int .i64 t222, .bool t223, .int .i64 t224, .int .i64 t225, .int .i64 t226, .int .i64 0, .bool false, .string (⟨#[]⟩ : ByteArray), .int .i64 0]) ?_ 9 _ rfl; (with_reducible repeat (first | apply lN_ | apply lD_ | apply lA_)); refine blk_put (cs := #[.int .i64 t218, .int .i64 t219, .int .i64 t220, .int .i64 t221, .int .i64 t222, .bool t223, .int .i64 t224, .int .i64 t225, .int .i64 0, .int .i64 0, .bool false, .string (⟨#[]⟩ : ByteArray), .int .i64 0]) ?_ 8 _ rfl; (with_reducible repeat (first | apply lN_ | apply lD_ | apply lA_)); refine blk_put (cs := #[.int .i64 t218, .int .i64 t219, .int .i64 t220, .int .i64 t221, .int .i64 t222, .bool t223, .int .i64 t224, .int .i64 0, .int .i64 0, .int .i64 0, .bool false, .string (⟨#[]⟩ : ByteArray), .int .i64 0]) ?_ 7 _ rfl; (with_reducible repeat (first | apply lN_ | apply lD_ | apply lA_)); refine blk_put (cs := #[.int .i64 t218, .int .i64 t219, .int .i64 t220, .int .i64 t221, .int .i64 t222, .bool t223, .int .i64 0, .int .i64 0, .int .i64 0, .int .i64 0, .bool false, .string (⟨#[]⟩ : ByteArray), .int .i64 0]) ?_ 6 _ rfl; (with_reducible repeat (first | apply lN_ | apply lD_ | apply lA_)); refine blk_put (cs := #[.int .i64 t218, .int .i64 t219, .int .i64 t220, .int .i64 t221, .int .i64 t222, .bool false, .int .i64 0, .int .i64 0, .int .i64 0, .int .i64 0, .bool false, .string (⟨#[]⟩ : ByteArray), .int .i64 0]) ?_ 5 _ rfl; (with_reducible repeat (first | apply lN_ | apply lD_ | apply lA_)); refine blk_put (cs := #[.int .i64 t218, .int .i64 t219, .int .i64 t220, .int .i64 t221, .int .i64 0, .bool false, .int .i64 0, .int .i64 0, .int .i64 0, .int .i64 0, .bool false, .string (⟨#[]⟩ : ByteArray), .int .i64 0]) ?_ 4 _ rfl; (with_reducible repeat (first | apply lN_ | apply lD_ | apply lA_)); refine blk_put (cs := #[.int .i64 t218, .int .i64 t219, .int .i64 t220, .int .i64 0, .int .i64 0, .bool false, .int .i64 0, .int .i64 0, .int .i64 0, .int .i64 0, .bool false, .string (⟨#[]⟩ : ByteArray), .int .i64 0]) ?_ 3 _ rfl; (with_reducible repeat (first | apply lN_ | apply lD_ | apply lA_)); refine blk_put (cs := #[.int .i64 t218, .int .i64 t219, .int .i64 0, .int .i64 0, .int .i64 0, .bool false, .int .i64 0, .int .i64 0, .int .i64 0, .int .i64 0, .bool false, .string (⟨#[]⟩ : ByteArray), .int .i64 0]) ?_ 2 _ rfl; (with_reducible repeat (first | apply lN_ | apply lD_ | apply lA_)); refine blk_put (cs := #[.int .i64 t218, .int .i64 0, .int .i64 0, .int .i64 0, .int .i64 0, .bool false, .int .i64 0, .int .i64 0, .int .i64 0, .int .i64 0, .bool false, .string (⟨#[]⟩ : ByteArray), .int .i64 0]) ?_ 1 _ rfl; (with_reducible repeat (first | apply lN_ | apply lD_ | apply lA_)); refine blk_put (cs := #[.int .i64 0, .int .i64 0, .int .i64 0, .int .i64 0, .int .i64 0, .bool false, .int .i64 0, .int .i64 0, .int .i64 0, .int .i64 0, .bool false, .string (⟨#[]⟩ : ByteArray), .int .i64 0]) ?_ 0 _ rfl; (with_reducible repeat (first | apply lN_ | apply lD_ | apply lA_)); refine blk_far ?_ NB216_217.out _; (with_reducible repeat (first | apply lN_ | apply lD_ | apply lA_)); refine blk_far ?_ NB216_217.out _; (with_reducible repeat (first | apply lN_ | apply lD_ | apply lA_)); exact BK216.out) Tryz.underlying40 rfl (by kernel_rfl)) rfl ?_
 exact ⟨by first | rfl | (simp [errW_none, errW_some] <;> rfl) | (simp [*, errW_none, errW_some] <;> rfl), bb3_ HB GE215 GE216 GE217⟩

/-! ### impl_within: function 77 -/
def impl_within.f (a0 : Int) (a1 : Int) (a2 : Int) : Option (Bool) := if a0 ≥ a1 then (some (decide (a0 ≤ a2))) else (some false)
set_option maxHeartbeats 8000000 in
set_option maxRecDepth 100000 in
theorem impl_within.calls (a0 : Int) (a1 : Int) (a2 : Int) (r : Bool) (w : World) (h : impl_within.f a0 a1 a2 = some r) :
  Calls Tryz.prog 77 #[.int .i64 a0, .int .i64 a1, .int .i64 a2] w fun e w' => e = .returned (.bool r) ∧ Drawn0 w w' := by
 have H : (if a0 ≥ a1 then (some (decide (a0 ≤ a2))) else (some false)) = some r := h
 clear h
 by_cases c4 : a0 ≥ a1
 ·rw [if_pos c4] at H
  have c4b0 : decide (a1 ≤ a0) = true := decide_eq_true c4
  clear c4
  obtain rfl := Option.some.inj H
  go_enter Tryz.func77, Tryz.ntmps77
  go_wp2
  go_ret
  exact ⟨by first | rfl | (simp; done) | (simp [*]; done), by repeat (first | exact Drawn0.refl _ | apply Drawn0.step)⟩
 ·rw [if_neg c4] at H
  have c4b0 : decide (a1 ≤ a0) = false := decide_eq_false c4
  clear c4
  obtain rfl := Option.some.inj H
  go_enter Tryz.func77, Tryz.ntmps77
  go_wp2
  go_ret
  exact ⟨by first | rfl | (simp; done) | (simp [*]; done), by repeat (first | exact Drawn0.refl _ | apply Drawn0.step)⟩

/-! ### impl_allWithin: function 74 -/
/-- Does a number lie outside of a range? -/
def awOut (a1 a2 x : Int) : Bool := !decide (a1 ≤ x ∧ x ≤ a2)
/-- The first place with such a number, or -1. -/
def awIdx (a1 a2 : Int) : Nat → List Int → Int
 | _, [] => -1
 | i, x :: xs => if awOut a1 a2 x = true then (i : Int) else awIdx a1 a2 (i + 1) xs
def awAll (a1 a2 : Int) (l : List Int) : Bool := l.all fun x => decide (a1 ≤ x ∧ x ≤ a2)
theorem awIdx_all (a1 a2 : Int) : ∀ (l : List Int) (i : Nat), (!decide (0 ≤ awIdx a1 a2 i l)) = awAll a1 a2 l
 | [], i => by simp [awIdx, awAll]
 | x :: xs, i => by
  unfold awIdx
  by_cases h : awOut a1 a2 x = true
  ·rw [if_pos h]
   unfold awOut at h
   simp only [Bool.not_eq_true'] at h
   simp only [awAll, List.all_cons, h, Bool.false_and]
   simp
  ·rw [if_neg h, awIdx_all a1 a2 xs (i + 1)]
   unfold awOut at h
   simp only [Bool.not_eq_true', Bool.not_eq_false] at h
   simp only [awAll, List.all_cons, h, Bool.true_and]
theorem aw_within (a b c : Int) : impl_within.f a b c = some (decide (b ≤ a ∧ a ≤ c)) := by
 unfold impl_within.f
 by_cases h : b ≤ a
 ·rw [if_pos h]; simp [h]
 ·rw [if_neg h]; simp [h]
set_option maxHeartbeats 4000000 in
set_option maxRecDepth 100000 in
theorem awOut_calls (x a1 a2 : Int) (p0 p1 : Nat) (w : World) (h0 : w.heap[p0]? = some (.cells #[.int .i64 a1] 3 (0, 0))) (h1 : w.heap[p1]? = some (.cells #[.int .i64 a2] 3 (0, 0))) :
  Calls Tryz.prog 86 #[.int .i64 x, .pointer (some ⟨p0, 0, none⟩), .pointer (some ⟨p1, 0, none⟩)] w fun e w' => e = .returned (.bool (awOut a1 a2 x)) ∧ Drawn0 w w' := by
 have hz0 : w.cell? ⟨p0, 0, none⟩ = some (.int .i64 a1) := (blk_cell h0 0).trans rfl
 have hz1 : w.cell? ⟨p1, 0, none⟩ = some (.int .i64 a2) := (blk_cell h1 0).trans rfl
 have HA := Aside0.mk (aw_within x a1 a2)
 clear h0 h1
 go_enter Tryz.func86, Tryz.ntmps86
 go_wp2_with (go_at_call 77; (with_reducible refine (impl_within.calls x a1 a2 _ _ HA.out).mono ?_); rintro e w' ⟨rfl, ⟨nd, rfl⟩⟩)
 go_ret
 exact ⟨by first | rfl | (simp [awOut]; done), by repeat (first | exact Drawn0.refl _ | apply Drawn0.step)⟩
/-- What holds of the numbers from i on. -/
def AWFrom (a1 a2 : Int) (l : List Int) (i : Nat) (r : Int) : Prop := i ≤ l.length ∧ awIdx a1 a2 i (l.drop i) = r
theorem aw_step {a1 a2 : Int} {l : List Int} {i : Nat} {r : Int} (h : AWFrom a1 a2 l i r) (hlt : i < l.length) : (awOut a1 a2 (rd l (i : Int)) = false → AWFrom a1 a2 l (i + 1) r) ∧ (awOut a1 a2 (rd l (i : Int)) = true → r = (i : Int)) := by
 obtain ⟨_, h⟩ := h
 rw [List.drop_eq_getElem_cons hlt] at h
 unfold awIdx at h
 have e : rd l (i : Int) = l[i] := by
  unfold rd
  rw [List.getD_eq_getElem?_getD]
  simp [hlt]
 rw [e]
 refine ⟨fun e => ?_, fun e => ?_⟩
 ·rw [e, if_neg (by decide)] at h; exact ⟨by omega, h⟩
 ·rw [if_pos e] at h; exact h.symm
theorem aw_end {a1 a2 : Int} {l : List Int} {i : Nat} {r : Int} (h : AWFrom a1 a2 l i r) (hge : ¬ i < l.length) : r = -1 := by
 obtain ⟨hi, h⟩ := h
 rw [List.drop_eq_nil_of_le (by omega)] at h
 exact h.symm
set_option maxHeartbeats 4000000 in
set_option maxRecDepth 100000 in
theorem awIndex_calls (A : Option Addr) (c : Nat) (l : List Int) (a1 a2 : Int) (p0 p1 : Nat) (w : World) (hr : Kd.C (Kd.int .i64) w A l.length l) (hn : l.length ≤ 1000) (h0 : w.heap[p0]? = some (.cells #[.int .i64 a1] 3 (0, 0))) (h1 : w.heap[p1]? = some (.cells #[.int .i64 a2] 3 (0, 0))) :
  Calls Tryz.prog 99 #[.slice A l.length c, .func (.func 86) #[] #[.pointer (some ⟨p0, 0, none⟩), .pointer (some ⟨p1, 0, none⟩)]] w fun e w' => e = .returned (.int .i64 (awIdx a1 a2 0 l)) ∧ Drawn0 w w' := by
 obtain ⟨r, hr0⟩ : ∃ r, awIdx a1 a2 0 l = r := ⟨_, rfl⟩
 rw [hr0]
 have HR := Aside0.mk hr
 have BK0 := Aside0.mk h0
 have BK1 := Aside0.mk h1
 have HN := Aside0.mk (show AWFrom a1 a2 l 0 r from ⟨Nat.zero_le _, by rw [List.drop_zero]; exact hr0⟩)
 have HD := Aside0.mk (Drawn0.refl w)
 have HL := Aside0.mk hn
 clear hr h0 h1 hn hr0
 go_enter Tryz.func99, Tryz.ntmps99
 go_wp2
 go_loopg [8] (l.length) (fun kq v8 w' => ∃ i : Nat, v8 = .int .i64 (i : Int) ∧ Aside0 (kq = l.length - i) ∧ Aside0 (AWFrom a1 a2 l i r) ∧ Aside0 (Drawn0 w w'))
 case atStart => exact ⟨0, rfl, ⟨rfl⟩, HN, HD⟩
 case round =>
  clear HN HD
  obtain ⟨i, rfl, HK, HN, HD⟩ := hrel
  have hll := HL.out
  by_cases hlt : i < l.length
  ·obtain ⟨n1, n2⟩ := aw_step HN.out hlt
   have BK0r := Aside0.mk (blk_below BK0.out HD.out.below)
   have BK1r := Aside0.mk (blk_below BK1.out HD.out.below)
   obtain ⟨ad, eA, hx⟩ := Kd.at_int (Kd.C_below HR.out HD.out.below) (i : Int) (by omega) (by omega)
   cases eA
   have hx : wr.cell? (ad.add i) = some (.int .i64 (rd l (i : Int))) := hx
   have HW := Aside0.mk (fun W h0 h1 => awOut_calls (rd l (i : Int)) a1 a2 p0 p1 W h0 h1)
   generalize rd l (i : Int) = x at n1 n2 hx HW
   have hi0 : (0 : Int) ≤ (i : Int) := by omega
   have hi1 : (i : Int) < (l.length : Int) := by omega
   cases ho : awOut a1 a2 x
   ·have h3 := Aside0.mk (n1 ho)
    rw [ho] at HW
    clear n1 n2 ho
    go_wp2_with (go_at_call 86; (with_reducible refine (HW.out _ BK0r.out BK1r.out).mono ?_); rintro e w' ⟨rfl, ⟨nd, rfl⟩⟩)
    go_roundg (l.length - (i + 1))
    case measure => have := HK.out; omega
    case rel => exact ⟨i + 1, by first | rfl | (simp; done), ⟨rfl⟩, h3, ⟨by repeat (first | exact HD.out | apply Drawn0.step)⟩⟩
   ·have h3 := Aside0.mk (n2 ho)
    rw [ho] at HW
    clear n1 n2 ho
    go_wp2_with (go_at_call 86; (with_reducible refine (HW.out _ BK0r.out BK1r.out).mono ?_); rintro e w' ⟨rfl, ⟨nd, rfl⟩⟩)
    go_ret
    exact ⟨by rw [h3.out]; rfl, by repeat (first | exact HD.out | apply Drawn0.step)⟩
  ·have h3 := aw_end HN.out hlt
   subst h3
   go_wp2
   go_ret
   exact ⟨rfl, HD.out⟩
set_option maxHeartbeats 4000000 in
set_option maxRecDepth 100000 in
theorem awContains_calls (A : Option Addr) (c : Nat) (l : List Int) (a1 a2 : Int) (p0 p1 : Nat) (w : World) (hr : Kd.C (Kd.int .i64) w A l.length l) (hn : l.length ≤ 1000) (h0 : w.heap[p0]? = some (.cells #[.int .i64 a1] 3 (0, 0))) (h1 : w.heap[p1]? = some (.cells #[.int .i64 a2] 3 (0, 0))) :
  Calls Tryz.prog 85 #[.slice A l.length c, .func (.func 86) #[] #[.pointer (some ⟨p0, 0, none⟩), .pointer (some ⟨p1, 0, none⟩)]] w fun e w' => e = .returned (.bool (!awAll a1 a2 l)) ∧ Drawn0 w w' := by
 have HC := Aside0.mk (awIndex_calls A c l a1 a2 p0 p1 w hr hn h0 h1)
 have HQ := Aside0.mk (awIdx_all a1 a2 l 0)
 generalize awIdx a1 a2 0 l = r at HC HQ
 generalize awAll a1 a2 l = b at HQ
 clear hr hn h0 h1
 go_enter Tryz.func85, Tryz.ntmps85
 go_wp2_with (go_at_call 99; refine HC.out.mono ?_; rintro e wq ⟨rfl, ⟨nd, rfl⟩⟩)
 go_ret
 exact ⟨by have := HQ.out; first | (rw [← this]; simp; done) | (simp [← this]; done), by repeat (first | exact Drawn0.refl _ | apply Drawn0.step)⟩
def impl_allWithin.f (l0 : List Int) (a1 a2 : Int) : Option Bool := if l0.length ≤ 1000 then some (awAll a1 a2 l0) else none
set_option maxHeartbeats 4000000 in
set_option maxRecDepth 100000 in
theorem impl_allWithin.calls (A0 : Option Addr) (c0 : Nat) (l0 : List Int) (a1 : Int) (a2 : Int) (r : Bool) (w : World) (hr0 : Kd.C (Kd.int .i64) w A0 l0.length l0) (hc0 : l0.length ≤ c0) (h : impl_allWithin.f l0 a1 a2 = some r) :
  Calls Tryz.prog 74 #[.slice A0 l0.length c0, .int .i64 a1, .int .i64 a2] w fun e w' => e = .returned (.bool r) ∧ Below w.heap.size w w' := by
 unfold impl_allWithin.f at h
 by_cases hl : l0.length ≤ 1000
 ·rw [if_pos hl] at h
  obtain rfl := Option.some.inj h
  have HB := Aside0.mk (Below.refl w.heap.size w)
  have HC := Aside0.mk (fun W (hb : Below w.heap.size w W) p0 p1 h0 h1 => awContains_calls A0 c0 l0 a1 a2 p0 p1 W (Kd.C_below hr0 hb) hl h0 h1)
  clear hl h hr0 hc0
  go_enter Tryz.func74, Tryz.ntmps74
  go_wp2_with (first | ((with_reducible refine gate_dst (N := 4) rfl ?_); refine box_event ?hg (N := 4) ?hd (cs := #[.int .i64 a1]) (t := 3) ?hr ?_; (case hd => rfl); (case hg => rfl); (case hr => first | (go_simp; done) | (go_simp; rfl)); intro g0 hg wq hbox hb; have n0_ := Aside0.mk (bt_ HB hb); have n1_ := Aside0.mk hbox; have n2_ := gz_ hg HB; clear HB; have HB := n0_; have BK0 := n1_; have GE0 := n2_; clear n0_ n1_ n2_ hb hg hbox) | ((with_reducible refine gate_dst (N := 5) rfl ?_); refine box_event ?hg (N := 5) ?hd (cs := #[.int .i64 a2]) (t := 3) ?hr ?_; (case hd => rfl); (case hg => rfl); (case hr => first | (go_simp; done) | (go_simp; rfl)); intro g1 hg wq hbox hb; have n0_ := Aside0.mk (bt_ HB hb); have n1_ := Aside0.mk hbox; have n2_ := Aside0.mk (lb_ BK0 hb); clear HB BK0; have HB := n0_; have BK1 := n1_; have BK0 := n2_; clear n0_ n1_ n2_ hb hg hbox) | (go_at_call 85; refine (HC.out _ (bb_ HB) _ _ (la_ BK0) (la_ BK1)).mono ?_; rintro e wq ⟨rfl, ⟨nd, rfl⟩⟩))
  go_ret
  exact ⟨by first | rfl | (simp; done), bb_ HB⟩
 ·rw [if_neg hl] at h; exact absurd h (by simp)

/-! ### impl_Shape_bends: function 75 -/
def impl_Shape_bends.f (a0_0 : Int) (a0_1 : Int) (a0_2 : Int) (a0_3 : Int) (a0_4 : Int) (a0_5 : Bool) : Option (List Int) := some (([a0_1, a0_2, a0_3, a0_4] : List Int))
set_option maxHeartbeats 8000000 in
set_option maxRecDepth 100000 in
theorem impl_Shape_bends.calls (a0_0 : Int) (a0_1 : Int) (a0_2 : Int) (a0_3 : Int) (a0_4 : Int) (a0_5 : Bool) (r : List Int) (w : World) (h : impl_Shape_bends.f a0_0 a0_1 a0_2 a0_3 a0_4 a0_5 = some r) :
  Calls Tryz.prog 75 #[.agg #[.int .i64 a0_0, .int .i64 a0_1, .int .i64 a0_2, .int .i64 a0_3, .int .i64 a0_4, .bool a0_5]] w fun e w' => ∃ v0_ : Value, e = .returned (v0_) ∧ Kd.R (Kd.int .i64) 3 w' w.heap.size (fun _ => True) v0_ r ∧ Below w.heap.size w w' := by
 have hu35 := Tryz.underlying35
 have HB := Aside0.mk (Below.refl w.heap.size w)
 have H : (some (([a0_1, a0_2, a0_3, a0_4] : List Int))) = some r := h
 clear h
 obtain ⟨y232, hy232⟩ : ∃ y_ : List Int, y_ = (([a0_1, a0_2, a0_3, a0_4] : List Int)) := ⟨_, rfl⟩
 replace H : (some y232) = some r := by first | (rw [hy232]; with_reducible exact H) | (have H2_ := (Option.bind_some _ _).symm.trans H; rw [hy232]; with_reducible exact H2_) | (have H2_ := (Option.bind_some _ _).symm.trans H; with_reducible exact H2_) | with_reducible exact H | (rw [hy232]; exact H) | exact H
 have Ny232 := Aside0.mk hy232
 clear hy232
 obtain rfl := Option.some.inj H
 go_enter Tryz.func75, Tryz.ntmps75
 go_wp2_with (first | ((with_reducible refine gate_dst (N := 1) rfl ?_); refine box_event ?hg (N := 1) ?hd (cs := #[.int .i64 a0_0, .int .i64 a0_1, .int .i64 a0_2, .int .i64 a0_3, .int .i64 a0_4, .bool a0_5]) (t := 35) ?hr ?_; (case hd => rfl); (case hg => rfl); (case hr => first | (go_simp; done) | (go_simp; rfl)); intro gb231 hg w2 hbox hb; have n0_ := Aside0.mk (bt_ HB hb); have n1_ := Aside0.mk (hbox); have n2_ := gz_ hg HB; have n3_ := gz_ hg HB; clear HB; have HB := n0_; have BK231 := n1_; have GW231 := n2_; have GE231 := n3_; clear n0_ n1_ n2_ n3_; clear hb hbox hg; have hcz3_0 := cz0_ BK231; have hcz3_1 := cz1_ BK231; have hcz3_2 := cz2_ BK231; have hcz3_3 := cz3_ BK231; have hcz3_4 := cz4_ BK231; have hcz3_5 := cz5_ BK231) | ((with_reducible refine gate_dst (N := 11) rfl ?_); refine Kd.R_lit (Kd.int .i64) _ 3 ?hg (N := 11) ?hd (xs := ([a0_1, a0_2, a0_3, a0_4] : List Int)) (inner := [.int .i64 a0_1, .int .i64 a0_2, .int .i64 a0_3, .int .i64 a0_4]) (ok := fun _ => True) (okp := fun _ => True) ?hr ?hp (fun _ hk => hk) trivial (Below.refl _ _) (Nat.le_refl _) (by simp) ?_; (case hd => rfl); (case hg => rfl); (case hr => first | (go_simp; done) | (go_simp; rfl)); (case hp => exact (Reps.one (show Kd.M (Kd.int .i64) _ _ _ a0_1 [.int .i64 a0_1] from rfl) (Reps.one (show Kd.M (Kd.int .i64) _ _ _ a0_2 [.int .i64 a0_2] from rfl) (Reps.one (show Kd.M (Kd.int .i64) _ _ _ a0_3 [.int .i64 a0_3] from rfl) (Reps.one (show Kd.M (Kd.int .i64) _ _ _ a0_4 [.int .i64 a0_4] from rfl) (Reps.none _ _)))))); intro v233 w4 ho5 hb hg_ hnew_; clear hg_ hnew_; (first | rw [← Ny232.out] at ho5 | (simp only [Int.reduceToNat] at ho5; rw [← Ny232.out] at ho5)); have n0_ := Aside0.mk (Kd.R_lower ho5 (below_size (bb1_ HB GE231))); have n1_ := Aside0.mk (lb_ BK231 hb); have n2_ := Aside0.mk (below_step (bb1_ HB GE231) hb); clear BK231; clear HB; have HO234 := n0_; have BK231 := n1_; have HB := n2_; clear n0_ n1_ n2_; clear hb ho5))
 go_ret
 exact ⟨_, by first | rfl | (simp [errW_none, errW_some] <;> rfl) | (simp [*, errW_none, errW_some] <;> rfl), by (with_reducible repeat (first | apply rA_ | apply rN_ | apply rD_)); exact HO234.out, bb1_ HB GE231⟩

/-! ### impl_Shape_maySpread: function 76 -/
def impl_Shape_maySpread.f (a0_0 : Int) (a0_1 : Int) (a0_2 : Int) (a0_3 : Int) (a0_4 : Int) (a0_5 : Bool) : Option (Bool) := if a0_2 = 0 then (if a0_1 = 0 then (some true) else (if a0_3 = 0 then (some true) else (some false))) else (if a0_3 = 0 then (some (a0_4 == 0)) else (some false))
set_option maxHeartbeats 8000000 in
set_option maxRecDepth 100000 in
theorem impl_Shape_maySpread.calls (a0_0 : Int) (a0_1 : Int) (a0_2 : Int) (a0_3 : Int) (a0_4 : Int) (a0_5 : Bool) (r : Bool) (w : World) (h : impl_Shape_maySpread.f a0_0 a0_1 a0_2 a0_3 a0_4 a0_5 = some r) :
  Calls Tryz.prog 76 #[.agg #[.int .i64 a0_0, .int .i64 a0_1, .int .i64 a0_2, .int .i64 a0_3, .int .i64 a0_4, .bool a0_5]] w fun e w' => e = .returned (.bool r) ∧ Below w.heap.size w w' := by
 have hu35 := Tryz.underlying35
 have HB := Aside0.mk (Below.refl w.heap.size w)
 have H : (if a0_2 = 0 then (if a0_1 = 0 then (some true) else (if a0_3 = 0 then (some true) else (some false))) else (if a0_3 = 0 then (some (a0_4 == 0)) else (some false))) = some r := h
 clear h
 by_cases c2 : a0_2 = 0
 ·rw [if_pos c2] at H
  have c2b0 : (a0_2 == 0) = true := beq_iff_eq.mpr c2
  have c2b1 : (a0_2 != 0) = false := bne_eq_false_iff_eq.mpr c2
  clear c2
  by_cases c3 : a0_1 = 0
  ·rw [if_pos c3] at H
   have c3b0 : (a0_1 == 0) = true := beq_iff_eq.mpr c3
   have c3b1 : (a0_1 != 0) = false := bne_eq_false_iff_eq.mpr c3
   clear c3
   obtain rfl := Option.some.inj H
   go_enter Tryz.func76, Tryz.ntmps76
   go_wp2_with (first | ((with_reducible refine gate_dst (N := 1) rfl ?_); refine box_event ?hg (N := 1) ?hd (cs := #[.int .i64 a0_0, .int .i64 a0_1, .int .i64 a0_2, .int .i64 a0_3, .int .i64 a0_4, .bool a0_5]) (t := 35) ?hr ?_; (case hd => rfl); (case hg => rfl); (case hr => first | (go_simp; done) | (go_simp; rfl)); intro gb235 hg w4 hbox hb; have n0_ := Aside0.mk (bt_ HB hb); have n1_ := Aside0.mk (hbox); have n2_ := gz_ hg HB; have n3_ := gz_ hg HB; clear HB; have HB := n0_; have BK235 := n1_; have GW235 := n2_; have GE235 := n3_; clear n0_ n1_ n2_ n3_; clear hb hbox hg; have hcz5_0 := cz0_ BK235; have hcz5_1 := cz1_ BK235; have hcz5_2 := cz2_ BK235; have hcz5_3 := cz3_ BK235; have hcz5_4 := cz4_ BK235; have hcz5_5 := cz5_ BK235))
   go_ret
   exact ⟨by first | rfl | (simp [errW_none, errW_some] <;> rfl) | (simp [*, errW_none, errW_some] <;> rfl), bb1_ HB GE235⟩
  ·rw [if_neg c3] at H
   have c3b0 : (a0_1 == 0) = false := beq_eq_false_iff_ne.mpr c3
   have c3b1 : (a0_1 != 0) = true := bne_iff_ne.mpr c3
   by_cases c6 : a0_3 = 0
   ·rw [if_pos c6] at H
    have c6b0 : (a0_3 == 0) = true := beq_iff_eq.mpr c6
    have c6b1 : (a0_3 != 0) = false := bne_eq_false_iff_eq.mpr c6
    clear c6
    obtain rfl := Option.some.inj H
    go_enter Tryz.func76, Tryz.ntmps76
    go_wp2_with (first | ((with_reducible refine gate_dst (N := 1) rfl ?_); refine box_event ?hg (N := 1) ?hd (cs := #[.int .i64 a0_0, .int .i64 a0_1, .int .i64 a0_2, .int .i64 a0_3, .int .i64 a0_4, .bool a0_5]) (t := 35) ?hr ?_; (case hd => rfl); (case hg => rfl); (case hr => first | (go_simp; done) | (go_simp; rfl)); intro gb235 hg w7 hbox hb; have n0_ := Aside0.mk (bt_ HB hb); have n1_ := Aside0.mk (hbox); have n2_ := gz_ hg HB; have n3_ := gz_ hg HB; clear HB; have HB := n0_; have BK235 := n1_; have GW235 := n2_; have GE235 := n3_; clear n0_ n1_ n2_ n3_; clear hb hbox hg; have hcz8_0 := cz0_ BK235; have hcz8_1 := cz1_ BK235; have hcz8_2 := cz2_ BK235; have hcz8_3 := cz3_ BK235; have hcz8_4 := cz4_ BK235; have hcz8_5 := cz5_ BK235))
    go_ret
    exact ⟨by first | rfl | (simp [errW_none, errW_some] <;> rfl) | (simp [*, errW_none, errW_some] <;> rfl), bb1_ HB GE235⟩
   ·rw [if_neg c6] at H
    have c6b0 : (a0_3 == 0) = false := beq_eq_false_iff_ne.mpr c6
    have c6b1 : (a0_3 != 0) = true := bne_iff_ne.mpr c6
    obtain rfl := Option.some.inj H
    go_enter Tryz.func76, Tryz.ntmps76
    go_wp2_with (first | ((with_reducible refine gate_dst (N := 1) rfl ?_); refine box_event ?hg (N := 1) ?hd (cs := #[.int .i64 a0_0, .int .i64 a0_1, .int .i64 a0_2, .int .i64 a0_3, .int .i64 a0_4, .bool a0_5]) (t := 35) ?hr ?_; (case hd => rfl); (case hg => rfl); (case hr => first | (go_simp; done) | (go_simp; rfl)); intro gb235 hg w9 hbox hb; have n0_ := Aside0.mk (bt_ HB hb); have n1_ := Aside0.mk (hbox); have n2_ := gz_ hg HB; have n3_ := gz_ hg HB; clear HB; have HB := n0_; have BK235 := n1_; have GW235 := n2_; have GE235 := n3_; clear n0_ n1_ n2_ n3_; clear hb hbox hg; have hcz10_0 := cz0_ BK235; have hcz10_1 := cz1_ BK235; have hcz10_2 := cz2_ BK235; have hcz10_3 := cz3_ BK235; have hcz10_4 := cz4_ BK235; have hcz10_5 := cz5_ BK235))
    go_ret
    exact ⟨by first | rfl | (simp [errW_none, errW_some] <;> rfl) | (simp [*, errW_none, errW_some] <;> rfl), bb1_ HB GE235⟩
 ·rw [if_neg c2] at H
  have c2b0 : (a0_2 == 0) = false := beq_eq_false_iff_ne.mpr c2
  have c2b1 : (a0_2 != 0) = true := bne_iff_ne.mpr c2
  by_cases c11 : a0_3 = 0
  ·rw [if_pos c11] at H
   have c11b0 : (a0_3 == 0) = true := beq_iff_eq.mpr c11
   have c11b1 : (a0_3 != 0) = false := bne_eq_false_iff_eq.mpr c11
   clear c11
   obtain rfl := Option.some.inj H
   go_enter Tryz.func76, Tryz.ntmps76
   go_wp2_with (first | ((with_reducible refine gate_dst (N := 1) rfl ?_); refine box_event ?hg (N := 1) ?hd (cs := #[.int .i64 a0_0, .int .i64 a0_1, .int .i64 a0_2, .int .i64 a0_3, .int .i64 a0_4, .bool a0_5]) (t := 35) ?hr ?_; (case hd => rfl); (case hg => rfl); (case hr => first | (go_simp; done) | (go_simp; rfl)); intro gb235 hg w12 hbox hb; have n0_ := Aside0.mk (bt_ HB hb); have n1_ := Aside0.mk (hbox); have n2_ := gz_ hg HB; have n3_ := gz_ hg HB; clear HB; have HB := n0_; have BK235 := n1_; have GW235 := n2_; have GE235 := n3_; clear n0_ n1_ n2_ n3_; clear hb hbox hg; have hcz13_0 := cz0_ BK235; have hcz13_1 := cz1_ BK235; have hcz13_2 := cz2_ BK235; have hcz13_3 := cz3_ BK235; have hcz13_4 := cz4_ BK235; have hcz13_5 := cz5_ BK235))
   go_ret
   exact ⟨by first | rfl | (simp [errW_none, errW_some] <;> rfl) | (simp [*, errW_none, errW_some] <;> rfl), bb1_ HB GE235⟩
  ·rw [if_neg c11] at H
   have c11b0 : (a0_3 == 0) = false := beq_eq_false_iff_ne.mpr c11
   have c11b1 : (a0_3 != 0) = true := bne_iff_ne.mpr c11
   obtain rfl := Option.some.inj H
   go_enter Tryz.func76, Tryz.ntmps76
   go_wp2_with (first | ((with_reducible refine gate_dst (N := 1) rfl ?_); refine box_event ?hg (N := 1) ?hd (cs := #[.int .i64 a0_0, .int .i64 a0_1, .int .i64 a0_2, .int .i64 a0_3, .int .i64 a0_4, .bool a0_5]) (t := 35) ?hr ?_; (case hd => rfl); (case hg => rfl); (case hr => first | (go_simp; done) | (go_simp; rfl)); intro gb235 hg w14 hbox hb; have n0_ := Aside0.mk (bt_ HB hb); have n1_ := Aside0.mk (hbox); have n2_ := gz_ hg HB; have n3_ := gz_ hg HB; clear HB; have HB := n0_; have BK235 := n1_; have GW235 := n2_; have GE235 := n3_; clear n0_ n1_ n2_ n3_; clear hb hbox hg; have hcz15_0 := cz0_ BK235; have hcz15_1 := cz1_ BK235; have hcz15_2 := cz2_ BK235; have hcz15_3 := cz3_ BK235; have hcz15_4 := cz4_ BK235; have hcz15_5 := cz5_ BK235))
   go_ret
   exact ⟨by first | rfl | (simp [errW_none, errW_some] <;> rfl) | (simp [*, errW_none, errW_some] <;> rfl), bb1_ HB GE235⟩

end Go.Proofs.YtihibilkmjpmdaaGreatDoor.PA
