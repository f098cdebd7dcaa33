-- Written by a program of this session (wip/tools/myprint.py). Not trusted: Lean checks it.
import Derived.Test.YtmbffgkejknfaaaGreatDoorSq4
import Derived.Test.YtmbffgkejknfaaaGreatDoorPAx0
import Derived.Test.YtmbffgkejknfaaaGreatDoorPAx11
import Derived.Test.YtmbffgkejknfaaaGreatDoorPAx12
import Derived.Test.YtmbffgkejknfaaaGreatDoorPAx13
namespace Go.Proofs.YtmbffgkejknfaaaGreatDoor.PA
open Go.RowKit Go.Proofs.YtmbffgkejknfaaaGreatDoorW.PrintWords Go.Proofs.YtmbffgkejknfaaaGreatDoorW.PrintLast Go.Proofs.YtmbffgkejknfaaaGreatDoorW.PrintMore
attribute [local go_sem] max2_int min2_int max_two min_two max_three min_three max_four min_four   -- for this text's walks alone
set_option linter.unusedVariables false
set_option linter.unusedSimpArgs false

/-! ### impl_ParseShape: function 125 -/
def impl_ParseShape.l0 : Nat → ByteArray → Int → Int → Int → Int → Int → Int → Bool → Option (Int × Int × Int × Int × Int × Bool × Bool)
 | 0, _, _, _, _, _, _, _, _ => none
 | k + 1, x0, x11, x289000, x289001, x289002, x289003, x289004, x289005 => if x11 < 5 then (if 0 ≤ x11 then (if x11 < (x0.size : Int) then ((impl_Shape_with.f x289000 x289001 x289002 x289003 x289004 x289005 x11 (wrap64 ((wrap64 (bt x0 x11)) - 48))).bind fun bt289 => (impl_ParseShape.l0 k x0 (wrap64 (x11 + 1)) bt289.1 bt289.2.1 bt289.2.2.1 bt289.2.2.2.1 bt289.2.2.2.2.1 bt289.2.2.2.2.2)) else (none)) else (none)) else ((impl_IsShape.f x289000 x289001 x289002 x289003 x289004 ((x0.size : Int) == 6)).bind fun t295 => (if t295 = true then ((impl_Shape_text.f k x289000 x289001 x289002 x289003 x289004 ((x0.size : Int) == 6)).bind fun t296 => (if t296.toList = x0.toList then (some (x289000, x289001, x289002, x289003, x289004, ((x0.size : Int) == 6), true)) else (some (0, 0, 0, 0, 0, false, false)))) else (some (0, 0, 0, 0, 0, false, false))))
def impl_ParseShape.f (k : Nat) (a0 : ByteArray) : Option (Int × Int × Int × Int × Int × Bool × Bool) := (impl_within.f (a0.size : Int) 5 6).bind fun t287 => (if t287 = true then (impl_ParseShape.l0 k a0 0 0 0 0 0 0 false) else (some (0, 0, 0, 0, 0, false, false)))
theorem impl_ParseShape.mono_l : ∀ k, (∀ y0 y1 y2 y3 y4 y5 y6 y7, LeO (impl_ParseShape.l0 k y0 y1 y2 y3 y4 y5 y6 y7) (impl_ParseShape.l0 (k + 1) y0 y1 y2 y3 y4 y5 y6 y7))
 | 0 => fun _ _ _ _ _ _ _ _ r h => by simp [impl_ParseShape.l0] at h
 | k + 1 => by
  have ih0 := impl_ParseShape.mono_l k
  ·intro y0 y1 y2 y3 y4 y5 y6 y7
   unfold impl_ParseShape.l0
   repeat' first
   | (with_reducible exact ih0 _ _ _ _ _ _ _ _)
   | (with_reducible exact impl_Shape_text.mono _ _ _ _ _ _ _)
   | (with_reducible exact LeO.refl _)
   | (with_reducible exact LeO.none _)
   | (with_reducible refine LeO.ite ?_ ?_)
   | (with_reducible refine LeO.bind ?_ (fun _ => ?_))
   | exact ih0 _ _ _ _ _ _ _ _
   | exact LeO.none _
   | refine LeO.ite ?_ ?_
   | refine LeO.bind ?_ (fun _ => ?_)
theorem impl_ParseShape.mono : ∀ a0 k, LeO (impl_ParseShape.f k a0) (impl_ParseShape.f (k + 1) a0) := by
 intro a0 k
 have ih0 := impl_ParseShape.mono_l k
 unfold impl_ParseShape.f
 repeat' first
   | (with_reducible exact ih0 _ _ _ _ _ _ _ _)
   | (with_reducible exact impl_Shape_text.mono _ _ _ _ _ _ _)
   | (with_reducible exact LeO.refl _)
   | (with_reducible exact LeO.none _)
   | (with_reducible refine LeO.ite ?_ ?_)
   | (with_reducible refine LeO.bind ?_ (fun _ => ?_))
   | exact ih0 _ _ _ _ _ _ _ _
   | exact LeO.none _
   | refine LeO.ite ?_ ?_
   | refine LeO.bind ?_ (fun _ => ?_)
def impl_ParseShape.T7 : Bool × List (List Nat × List Nat) := (true, [([], []), ([], []), ([], []), ([], []), ([2, 3], [2, 3]), ([4], [4]), ([5], [5]), ([0, 1, 6], [0, 1, 6]), ([7, 7, 0, 1, 2, 3, 4, 5, 6, 7], [7])])
def impl_ParseShape.B7 : List Nat := [0, 0, 0, 0, 12, 28, 60, 127, 255]
theorem impl_ParseShape.tab7 : rtab .any (opsOf Tryz.f125 7) = impl_ParseShape.T7 := by kernel_rfl
theorem impl_ParseShape.bits7 : waitsOk impl_ParseShape.T7.2 impl_ParseShape.B7 = true := by kernel_rfl
set_option maxHeartbeats 8000000 in
set_option maxRecDepth 100000 in
theorem impl_ParseShape.calls (k : Nat) (a0 : ByteArray) (r1 r2 : Int) (r3 r4 r5 : Int) (r6 r7 : Bool) (w : World) (h : impl_ParseShape.f k a0 = some (r1, r2, r3, r4, r5, r6, r7)) :
  Calls Tryz.prog 125 #[.string a0] w fun e w' => e = .returned (.tuple #[.agg #[.int .i64 r1, .int .i64 r2, .int .i64 r3, .int .i64 r4, .int .i64 r5, .bool r6], .bool r7]) ∧ Below w.heap.size w w' := by
 have hu37 := Tryz.underlying37
 have HB := am_ (Below.refl w.heap.size w)
 have H : ((impl_within.f (a0.size : Int) 5 6).bind fun t287 => (if t287 = true then (impl_ParseShape.l0 k a0 0 0 0 0 0 0 false) else (some (0, 0, 0, 0, 0, false, false)))) = some (r1, r2, r3, r4, r5, r6, r7) := h
 clear h
 replace H := Option.bind_eq_some_iff.mp H
 obtain ⟨t287, A20, H⟩ := H
 try dsimp only at H
 have A2 := Aside0.mk A20
 clear A20
 by_cases c3 : t287 = true
 ·subst c3
  have H1 : (impl_ParseShape.l0 k a0 0 0 0 0 0 0 false) = some (r1, r2, r3, r4, r5, r6, r7) := by rw [if_pos rfl] at H; exact H
  clear H
  have H := H1
  clear H1
  have H' := Aside0.mk H
  clear H
  go_enter Tryz.func125, Tryz.ntmps125
  go_wp2_with (first | ((with_reducible refine gate_dst (N := 2) rfl ?_); refine bx_ (cs := #[.int .i64 0, .int .i64 0, .int .i64 0, .int .i64 0, .int .i64 0, .bool false]) (t := 37) ?_; intro gb286 hg w4 hbox hb; have BK286 := am_ (hbox); have GW286 := gz_ hg HB; have GE286 := gz_ hg HB; replace HB := am_ (bt_ HB hb); clear hb hbox hg) | ((with_reducible refine gate_callee (f := 63) rfl ?_); refine goesL_ (some 8) rfl rfl Tryz.func63 (by kernel_rfl) rfl #[.int .i64 (a0.size : Int), .int .i64 5, .int .i64 6] rfl args_ ?_; (with_reducible refine (impl_within.calls (w := _) (h := A2.out)).mono ?_); rintro e w' ⟨rfl, ⟨nd, rfl⟩⟩; refine ⟨_, rfl, ?_⟩) | ((with_reducible refine gate_dst (N := 4) rfl ?_); refine bx_ (cs := #[.int .i64 0, .int .i64 0, .int .i64 0, .int .i64 0, .int .i64 0, .bool false]) (t := 37) ?_; intro gb288 hg w5 hbox hb; have BK288 := am_ (hbox); have GW288 := gy_ hg (bb1_ HB GE286); have GE288 := gy_ hg (bb1_ HB GE286); replace HB := am_ (below_step (bb1_ HB GE286) hb); have NB286_288 := nl_ hg BK286; have NB288_286 := ng_ hg BK286; replace BK286 := am_ (lb_ BK286 hb); clear hb hbox hg))
  go_loopg [11] k (fun kq v11 w' => ∃ (x11_1 : Int) (x289000_1 : Int) (x289001_1 : Int) (x289002_1 : Int) (x289003_1 : Int) (x289004_1 : Int) (x289005_1 : Bool), v11 = .int .i64 x11_1 ∧ Aside0 (impl_ParseShape.l0 kq a0 x11_1 x289000_1 x289001_1 x289002_1 x289003_1 x289004_1 x289005_1 = some (r1, r2, r3, r4, r5, r6, r7)) ∧ Aside0 (kq ≤ k) ∧ Aside0 (w'.heap[gb286]? = some (.cells #[.int .i64 0, .int .i64 0, .int .i64 0, .int .i64 0, .int .i64 0, .bool false] 37 (0, 0))) ∧ Aside0 (w'.heap[gb288]? = some (.cells #[.int .i64 x289000_1, .int .i64 x289001_1, .int .i64 x289002_1, .int .i64 x289003_1, .int .i64 x289004_1, .bool x289005_1] 37 (0, 0))) ∧ Aside0 (Below w.heap.size w w'))
  case atStart => exact ⟨(0), (0), (0), (0), (0), (0), (false), (by first | rfl | (simp; done) | (simp [*]; done)), H', ⟨Nat.le_refl _⟩, ⟨by (with_reducible repeat (first | apply lN_ | apply lD_ | apply lA_)); exact BK286.out⟩, ⟨by (with_reducible repeat (first | apply lN_ | apply lD_ | apply lA_)); exact BK288.out⟩, ⟨bb2_ HB GE286 GE288⟩⟩
  case round =>
   clear H'
   try clear c1
   try clear p2
   try clear c3
   obtain ⟨x11_1, x289000_1, x289001_1, x289002_1, x289003_1, x289004_1, x289005_1, rfl, HA, HK1, BK286, BK288, HB⟩ := hrel
   cases gk with
   | zero => exact absurd HA.out (by simp [impl_ParseShape.l0])
   | succ k1 =>
    have H := HA.out
    clear HA
    simp only [impl_ParseShape.l0] at H
    by_cases c6 : x11_1 < 5
    ·rw [if_pos c6] at H
     have c6b0 : decide (x11_1 < 5) = true := decide_eq_true c6
     clear c6
     by_cases c7 : 0 ≤ x11_1
     ·rw [if_pos c7] at H
      have c7b0 : decide (0 ≤ x11_1) = true := decide_eq_true c7
      clear c7
      by_cases c8 : x11_1 < (a0.size : Int)
      ·rw [if_pos c8] at H
       have c8b0 : decide (x11_1 < (a0.size : Int)) = true := decide_eq_true c8
       clear c8
       replace H := Option.bind_eq_some_iff.mp H
       obtain ⟨⟨t289, t290, t291, t292, t293, t294⟩, A100, H⟩ := H
       try dsimp only at H
       have A10 := Aside0.mk A100
       clear A100
       have H' := Aside0.mk H
       clear H
       try go_wp2
       replace BK286 := am_ (blk_drew BK286.out)
       replace BK288 := am_ (blk_drew BK288.out)
       replace HB := am_ (below_drew1 HB.out)
       have p9 : 0 ≤ (x11_1 : Int) := of_decide_eq_true as_
       have q9 : x11_1 < (a0.size : Int) := of_decide_eq_true as_
       have hx9 := bt_at a0 x11_1
       replace p9 := eq_true p9
       replace q9 := eq_true q9
       refine start_ (n := 9) (S := fun w' => w'.cell? ⟨gb288, 0, none⟩ = some (.int .i64 x289000_1) ∧ w'.cell? ⟨gb288, 1, none⟩ = some (.int .i64 x289001_1) ∧ w'.cell? ⟨gb288, 2, none⟩ = some (.int .i64 x289002_1) ∧ w'.cell? ⟨gb288, 3, none⟩ = some (.int .i64 x289003_1) ∧ w'.cell? ⟨gb288, 4, none⟩ = some (.int .i64 x289004_1) ∧ w'.cell? ⟨gb288, 5, none⟩ = some (.bool x289005_1)) (ds := [8]) #[false, false, false, false, false, false, false, false, false] (by kernel_rfl) rfl rfl (by repeat' (first | apply And.intro | exact (blk_cell BK288.out _).trans rfl)) (fun hHeld => ?_); refine with_tabW impl_ParseShape.tab7 impl_ParseShape.bits7 (fun HT_ HW_ => ?_)
       generalize wr.drew = w11 at BK286 BK288 HB hHeld ⊢
       refine pu2_ (i := 1) (N := some 15) #[false, true, false, false, false, false, false, false, false] rfl rfl ?_
       refine pu2_ (i := 2) (N := some 16) #[false, true, true, false, false, false, false, false, false] rfl rfl ?_
       refine pu2_ (i := 3) (N := some 17) #[false, true, true, true, false, false, false, false, false] rfl rfl ?_
       refine tk2_ (i := 0) (N := some 14) #[true, true, true, true, false, false, false, false, false] rfl rfl hHeld ?_
       refine tk2_ (i := 4) (N := some 18) #[true, true, true, true, true, false, false, false, false] rfl rfl hHeld ?_
       refine pu2_ (i := 5) (N := some 19) #[true, true, true, true, true, true, false, false, false] rfl rfl ?_
       refine pu2_ (i := 6) (N := some 20) #[true, true, true, true, true, true, true, false, false] rfl rfl ?_
       refine one_ (i := 7) (N := some 21) #[true, true, true, true, true, true, true, true, false] rfl rfl (one_of HT_.out (by kernel_rfl)) (by decide) (fun K hK => ?_)
       refine goes_ Tryz.func142 (by kernel_rfl) rfl #[.agg #[.int .i64 x289000_1, .int .i64 x289001_1, .int .i64 x289002_1, .int .i64 x289003_1, .int .i64 x289004_1, .bool x289005_1], .int .i64 x11_1, .int .i64 (wrap64 ((wrap64 (bt a0 x11_1)) - 48))] (by rfl) rfl rfl args_ ?_
       with_reducible refine (impl_Shape_with.calls x289000_1 x289001_1 x289002_1 x289003_1 x289004_1 x289005_1 x11_1 (wrap64 ((wrap64 (bt a0 x11_1)) - 48)) t289 t290 t291 t292 t293 t294 _ A10.out).mono ?_
       rintro e w12 ⟨rfl, hb⟩
       refine ⟨_, rfl, ?_⟩
       replace BK286 := am_ (lb_ BK286 hb)
       replace BK288 := am_ (lb_ BK288 hb)
       replace HB := am_ (below_step (bb2_ HB GE286 GE288) hb)
       (try clear hb)
       (try clear hb2)
       (try clear hk)
       (try clear hi)
       refine hK.out _ _ (by repeat' (first | apply And.intro | exact (blk_cell BK288.out _).trans rfl)) (fun hHeld => ?_)
       clear hK K
       refine nm2_ ?_
       refine last_ (i := 8) (N := none) #[true, true, true, true, true, true, true, true, true] rfl rfl (one_of HT_.out (by kernel_rfl)) (by decide) (fun K hK => ?_)
       have hs13 := cz0_ BK288
       have hfs13 := fz_ BK288 0
       have hns13_0 := NB286_288.out
       have hms13_0 := NB288_286.out
       have hs14 := cz1_ BK288
       have hfs14 := fz_ BK288 1
       have hns14_0 := NB286_288.out
       have hms14_0 := NB288_286.out
       have hs15 := cz2_ BK288
       have hfs15 := fz_ BK288 2
       have hns15_0 := NB286_288.out
       have hms15_0 := NB288_286.out
       have hs16 := cz3_ BK288
       have hfs16 := fz_ BK288 3
       have hns16_0 := NB286_288.out
       have hms16_0 := NB288_286.out
       have hs17 : w12.cell? ⟨gb288, 4, none⟩ = some (.int .i64 x289004_1) := (blk_cell BK288.out 4).trans rfl
       have hfs17 := fz_ BK288 4
       have hns17_0 := NB286_288.out
       have hms17_0 := NB288_286.out
       have hs18 : w12.cell? ⟨gb288, 5, none⟩ = some (.bool x289005_1) := (blk_cell BK288.out 5).trans rfl
       have hfs18 := fz_ BK288 5
       have hns18_0 := NB286_288.out
       have hms18_0 := NB288_286.out
       refine skip_ (w1 := ?_) (by rfl) rfl ?_ ?_
       rotate_left
       ·go_simp
        rfl
       refine hK.out _ _ ?_
       clear hK K
       refine done_ (done_of HT_.out (by kernel_rfl)) ?_
       try go_wp2
       go_roundg k1
       case measure => have := HK1.out; omega
       case rel => exact ⟨(wrap64 (x11_1 + 1)), (t289), (t290), (t291), (t292), (t293), (t294), (by first | rfl | (simp; done) | (simp [*]; done)), H', ⟨by have := HK1.out; omega⟩, ⟨by (with_reducible repeat (first | apply lN_ | apply lD_ | apply lA_)); refine blk_far ?_ NB286_288.out _; (with_reducible repeat (first | apply lN_ | apply lD_ | apply lA_)); refine blk_far ?_ NB286_288.out _; (with_reducible repeat (first | apply lN_ | apply lD_ | apply lA_)); refine blk_far ?_ NB286_288.out _; (with_reducible repeat (first | apply lN_ | apply lD_ | apply lA_)); refine blk_far ?_ NB286_288.out _; (with_reducible repeat (first | apply lN_ | apply lD_ | apply lA_)); refine blk_far ?_ NB286_288.out _; (with_reducible repeat (first | apply lN_ | apply lD_ | apply lA_)); refine blk_far ?_ NB286_288.out _; (with_reducible repeat (first | apply lN_ | apply lD_ | apply lA_)); exact BK286.out⟩, ⟨by (with_reducible repeat (first | apply lN_ | apply lD_ | apply lA_)); refine blk_put (cs := #[.int .i64 t289, .int .i64 t290, .int .i64 t291, .int .i64 t292, .int .i64 t293, .bool x289005_1]) ?_ 5 _ rfl; (with_reducible repeat (first | apply lN_ | apply lD_ | apply lA_)); refine blk_put (cs := #[.int .i64 t289, .int .i64 t290, .int .i64 t291, .int .i64 t292, .int .i64 x289004_1, .bool x289005_1]) ?_ 4 _ rfl; (with_reducible repeat (first | apply lN_ | apply lD_ | apply lA_)); refine blk_put (cs := #[.int .i64 t289, .int .i64 t290, .int .i64 t291, .int .i64 x289003_1, .int .i64 x289004_1, .bool x289005_1]) ?_ 3 _ rfl; (with_reducible repeat (first | apply lN_ | apply lD_ | apply lA_)); refine blk_put (cs := #[.int .i64 t289, .int .i64 t290, .int .i64 x289002_1, .int .i64 x289003_1, .int .i64 x289004_1, .bool x289005_1]) ?_ 2 _ rfl; (with_reducible repeat (first | apply lN_ | apply lD_ | apply lA_)); refine blk_put (cs := #[.int .i64 t289, .int .i64 x289001_1, .int .i64 x289002_1, .int .i64 x289003_1, .int .i64 x289004_1, .bool x289005_1]) ?_ 1 _ rfl; (with_reducible repeat (first | apply lN_ | apply lD_ | apply lA_)); refine blk_put (cs := #[.int .i64 x289000_1, .int .i64 x289001_1, .int .i64 x289002_1, .int .i64 x289003_1, .int .i64 x289004_1, .bool x289005_1]) ?_ 0 _ rfl; (with_reducible repeat (first | apply lN_ | apply lD_ | apply lA_)); exact BK288.out⟩, ⟨bb2_ HB GE286 GE288⟩⟩
      ·rw [if_neg c8] at H
       exact absurd H (by simp)
     ·rw [if_neg c7] at H
      exact absurd H (by simp)
    ·rw [if_neg c6] at H
     have c6b0 : decide (x11_1 < 5) = false := decide_eq_false c6
     clear c6
     replace H := Option.bind_eq_some_iff.mp H
     obtain ⟨t295, A190, H⟩ := H
     try dsimp only at H
     have A19 := Aside0.mk A190
     clear A190
     by_cases c20 : t295 = true
     ·subst c20
      have H1 : ((impl_Shape_text.f k1 x289000_1 x289001_1 x289002_1 x289003_1 x289004_1 ((a0.size : Int) == 6)).bind fun t296 => (if t296.toList = a0.toList then (some (x289000_1, x289001_1, x289002_1, x289003_1, x289004_1, ((a0.size : Int) == 6), true)) else (some (0, 0, 0, 0, 0, false, false)))) = some (r1, r2, r3, r4, r5, r6, r7) := by rw [if_pos rfl] at H; exact H
      clear H
      have H := H1
      clear H1
      replace H := Option.bind_eq_some_iff.mp H
      obtain ⟨t296, A210, H⟩ := H
      try dsimp only at H
      have A21 := Aside0.mk A210
      clear A210
      by_cases c22 : t296.toList = a0.toList
      ·rw [if_pos c22] at H
       have c22b0 : (t296.toList == a0.toList) = true := beq_iff_eq.mpr c22
       have c22b1 : (t296.toList != a0.toList) = false := bne_eq_false_iff_eq.mpr c22
       clear c22
       simp only [Option.some.injEq, Prod.mk.injEq] at H
       obtain ⟨rfl, rfl, rfl, rfl, rfl, rfl, rfl⟩ := H
       have hnb23 := NB288_286.out
       have hnc23 := NB286_288.out
       have hcz24_0 := cz0_ BK288
       have hcz24_1 := cz1_ BK288
       have hcz24_2 := cz2_ BK288
       have hcz24_3 := cz3_ BK288
       have hcz24_4 := cz4_ BK288
       have hcz24_5 := cz5_ BK288
       have hfz24_0 := fz_ BK288 0
       have hfz24_1 := fz_ BK288 1
       have hfz24_2 := fz_ BK288 2
       have hfz24_3 := fz_ BK288 3
       have hfz24_4 := fz_ BK288 4
       have hfz24_5 := fz_ BK288 5
       go_wp2_with (first | ((with_reducible refine gate_callee (f := 85) rfl ?_); refine goesL_ (some 28) rfl rfl Tryz.func85 (by kernel_rfl) rfl #[.agg #[.int .i64 x289000_1, .int .i64 x289001_1, .int .i64 x289002_1, .int .i64 x289003_1, .int .i64 x289004_1, .bool ((a0.size : Int) == 6)]] rfl args_ ?_; (with_reducible refine (impl_IsShape.calls x289000_1 x289001_1 x289002_1 x289003_1 x289004_1 ((a0.size : Int) == 6) true _ A19.out).mono ?_); rintro e w25 ⟨rfl, hb⟩; refine ⟨_, rfl, ?_⟩; have n0_ := am_ (blk_below (g := gb286) (o := .cells #[.int .i64 0, .int .i64 0, .int .i64 0, .int .i64 0, .int .i64 0, .bool false] 37 (0, 0)) (by (with_reducible repeat (first | apply lN_ | apply lD_ | apply lA_)); refine blk_far ?_ NB286_288.out _; (with_reducible repeat (first | apply lN_ | apply lD_ | apply lA_)); exact BK286.out) hb); have n1_ := am_ (blk_below (g := gb288) (o := .cells #[.int .i64 x289000_1, .int .i64 x289001_1, .int .i64 x289002_1, .int .i64 x289003_1, .int .i64 x289004_1, .bool ((a0.size : Int) == 6)] 37 (0, 0)) (by (with_reducible repeat (first | apply lN_ | apply lD_ | apply lA_)); refine blk_put (cs := #[.int .i64 x289000_1, .int .i64 x289001_1, .int .i64 x289002_1, .int .i64 x289003_1, .int .i64 x289004_1, .bool x289005_1]) ?_ 5 _ rfl; (with_reducible repeat (first | apply lN_ | apply lD_ | apply lA_)); exact BK288.out) hb); have n2_ := am_ (below_step (bb2_ HB GE286 GE288) hb); clear BK286; clear BK288; clear HB; have BK286 := n0_; have BK288 := n1_; have HB := n2_; clear n0_ n1_ n2_; (try clear hb); (try clear hb2); (try clear hk); (try clear hi); have hcz26_0 := cz0_ BK288; have hcz26_1 := cz1_ BK288; have hcz26_2 := cz2_ BK288; have hcz26_3 := cz3_ BK288; have hcz26_4 := cz4_ BK288; have hcz26_5 := cz5_ BK288; have hfz26_0 := fz_ BK288 0; have hfz26_1 := fz_ BK288 1; have hfz26_2 := fz_ BK288 2; have hfz26_3 := fz_ BK288 3; have hfz26_4 := fz_ BK288 4; have hfz26_5 := fz_ BK288 5) | (go_at_call 110; (with_reducible refine (impl_Shape_text.calls k1 x289000_1 x289001_1 x289002_1 x289003_1 x289004_1 ((a0.size : Int) == 6) t296 _ A21.out).mono ?_); rintro e w27 ⟨rfl, hb⟩; replace BK286 := am_ (lb_ BK286 hb); replace BK288 := am_ (lb_ BK288 hb); replace HB := am_ (below_step (bb2_ HB GE286 GE288) hb); (try clear hb); (try clear hb2); (try clear hk); (try clear hi); have hcz28_0 := cz0_ BK288; have hcz28_1 := cz1_ BK288; have hcz28_2 := cz2_ BK288; have hcz28_3 := cz3_ BK288; have hcz28_4 := cz4_ BK288; have hcz28_5 := cz5_ BK288; have hfz28_0 := fz_ BK288 0; have hfz28_1 := fz_ BK288 1; have hfz28_2 := fz_ BK288 2; have hfz28_3 := fz_ BK288 3; have hfz28_4 := fz_ BK288 4; have hfz28_5 := fz_ BK288 5; have hcz29_0 := cz0_ BK286; have hcz29_1 := cz1_ BK286; have hcz29_2 := cz2_ BK286; have hcz29_3 := cz3_ BK286; have hcz29_4 := cz4_ BK286; have hcz29_5 := cz5_ BK286; have hfz29_0 := fz_ BK286 0; have hfz29_1 := fz_ BK286 1; have hfz29_2 := fz_ BK286 2; have hfz29_3 := fz_ BK286 3; have hfz29_4 := fz_ BK286 4; have hfz29_5 := fz_ BK286 5))
       refine bodyPost_ret (results_ct rfl _ _ gb286 37 #[.int .i64 x289000_1, .int .i64 x289001_1, .int .i64 x289002_1, .int .i64 x289003_1, .int .i64 x289004_1, .bool ((a0.size : Int) == 6)] (0, 0) _ rfl (by (with_reducible repeat (first | apply lN_ | apply lD_ | apply lA_)); refine blk_put (cs := #[.int .i64 x289000_1, .int .i64 x289001_1, .int .i64 x289002_1, .int .i64 x289003_1, .int .i64 x289004_1, .bool false]) ?_ 5 _ rfl; (with_reducible repeat (first | apply lN_ | apply lD_ | apply lA_)); refine blk_put (cs := #[.int .i64 x289000_1, .int .i64 x289001_1, .int .i64 x289002_1, .int .i64 x289003_1, .int .i64 0, .bool false]) ?_ 4 _ rfl; (with_reducible repeat (first | apply lN_ | apply lD_ | apply lA_)); refine blk_put (cs := #[.int .i64 x289000_1, .int .i64 x289001_1, .int .i64 x289002_1, .int .i64 0, .int .i64 0, .bool false]) ?_ 3 _ rfl; (with_reducible repeat (first | apply lN_ | apply lD_ | apply lA_)); refine blk_put (cs := #[.int .i64 x289000_1, .int .i64 x289001_1, .int .i64 0, .int .i64 0, .int .i64 0, .bool false]) ?_ 2 _ rfl; (with_reducible repeat (first | apply lN_ | apply lD_ | apply lA_)); refine blk_put (cs := #[.int .i64 x289000_1, .int .i64 0, .int .i64 0, .int .i64 0, .int .i64 0, .bool false]) ?_ 1 _ rfl; (with_reducible repeat (first | apply lN_ | apply lD_ | apply lA_)); refine blk_put (cs := #[.int .i64 0, .int .i64 0, .int .i64 0, .int .i64 0, .int .i64 0, .bool false]) ?_ 0 _ rfl; (with_reducible repeat (first | apply lN_ | apply lD_ | apply lA_)); exact BK286.out) Tryz.underlying37 rfl (by kernel_rfl)) rfl ?_
       exact ⟨ew_, bb2_ HB GE286 GE288⟩
      ·rw [if_neg c22] at H
       have c22b0 : (t296.toList == a0.toList) = false := beq_eq_false_iff_ne.mpr c22
       have c22b1 : (t296.toList != a0.toList) = true := bne_iff_ne.mpr c22
       simp only [Option.some.injEq, Prod.mk.injEq] at H
       obtain ⟨rfl, rfl, rfl, rfl, rfl, rfl, rfl⟩ := H
       have hnb30 := NB288_286.out
       have hnc30 := NB286_288.out
       have hcz31_0 := cz0_ BK288
       have hcz31_1 := cz1_ BK288
       have hcz31_2 := cz2_ BK288
       have hcz31_3 := cz3_ BK288
       have hcz31_4 := cz4_ BK288
       have hcz31_5 := cz5_ BK288
       have hfz31_0 := fz_ BK288 0
       have hfz31_1 := fz_ BK288 1
       have hfz31_2 := fz_ BK288 2
       have hfz31_3 := fz_ BK288 3
       have hfz31_4 := fz_ BK288 4
       have hfz31_5 := fz_ BK288 5
       go_wp2_with (first | ((with_reducible refine gate_callee (f := 85) rfl ?_); refine goesL_ (some 28) rfl rfl Tryz.func85 (by kernel_rfl) rfl #[.agg #[.int .i64 x289000_1, .int .i64 x289001_1, .int .i64 x289002_1, .int .i64 x289003_1, .int .i64 x289004_1, .bool ((a0.size : Int) == 6)]] rfl args_ ?_; (with_reducible refine (impl_IsShape.calls x289000_1 x289001_1 x289002_1 x289003_1 x289004_1 ((a0.size : Int) == 6) true _ A19.out).mono ?_); rintro e w32 ⟨rfl, hb⟩; refine ⟨_, rfl, ?_⟩; have n0_ := am_ (blk_below (g := gb286) (o := .cells #[.int .i64 0, .int .i64 0, .int .i64 0, .int .i64 0, .int .i64 0, .bool false] 37 (0, 0)) (by (with_reducible repeat (first | apply lN_ | apply lD_ | apply lA_)); refine blk_far ?_ NB286_288.out _; (with_reducible repeat (first | apply lN_ | apply lD_ | apply lA_)); exact BK286.out) hb); have n1_ := am_ (blk_below (g := gb288) (o := .cells #[.int .i64 x289000_1, .int .i64 x289001_1, .int .i64 x289002_1, .int .i64 x289003_1, .int .i64 x289004_1, .bool ((a0.size : Int) == 6)] 37 (0, 0)) (by (with_reducible repeat (first | apply lN_ | apply lD_ | apply lA_)); refine blk_put (cs := #[.int .i64 x289000_1, .int .i64 x289001_1, .int .i64 x289002_1, .int .i64 x289003_1, .int .i64 x289004_1, .bool x289005_1]) ?_ 5 _ rfl; (with_reducible repeat (first | apply lN_ | apply lD_ | apply lA_)); exact BK288.out) hb); have n2_ := am_ (below_step (bb2_ HB GE286 GE288) hb); clear BK286; clear BK288; clear HB; have BK286 := n0_; have BK288 := n1_; have HB := n2_; clear n0_ n1_ n2_; (try clear hb); (try clear hb2); (try clear hk); (try clear hi); have hcz33_0 := cz0_ BK288; have hcz33_1 := cz1_ BK288; have hcz33_2 := cz2_ BK288; have hcz33_3 := cz3_ BK288; have hcz33_4 := cz4_ BK288; have hcz33_5 := cz5_ BK288; have hfz33_0 := fz_ BK288 0; have hfz33_1 := fz_ BK288 1; have hfz33_2 := fz_ BK288 2; have hfz33_3 := fz_ BK288 3; have hfz33_4 := fz_ BK288 4; have hfz33_5 := fz_ BK288 5) | (go_at_call 110; (with_reducible refine (impl_Shape_text.calls k1 x289000_1 x289001_1 x289002_1 x289003_1 x289004_1 ((a0.size : Int) == 6) t296 _ A21.out).mono ?_); rintro e w34 ⟨rfl, hb⟩; replace BK286 := am_ (lb_ BK286 hb); replace BK288 := am_ (lb_ BK288 hb); replace HB := am_ (below_step (bb2_ HB GE286 GE288) hb); (try clear hb); (try clear hb2); (try clear hk); (try clear hi); have hcz35_0 := cz0_ BK286; have hcz35_1 := cz1_ BK286; have hcz35_2 := cz2_ BK286; have hcz35_3 := cz3_ BK286; have hcz35_4 := cz4_ BK286; have hcz35_5 := cz5_ BK286; have hfz35_0 := fz_ BK286 0; have hfz35_1 := fz_ BK286 1; have hfz35_2 := fz_ BK286 2; have hfz35_3 := fz_ BK286 3; have hfz35_4 := fz_ BK286 4; have hfz35_5 := fz_ BK286 5))
       refine bodyPost_ret (results_ct rfl _ _ gb286 37 #[.int .i64 0, .int .i64 0, .int .i64 0, .int .i64 0, .int .i64 0, .bool false] (0, 0) _ rfl (by (with_reducible repeat (first | apply lN_ | apply lD_ | apply lA_)); refine blk_put (cs := #[.int .i64 0, .int .i64 0, .int .i64 0, .int .i64 0, .int .i64 0, .bool false]) ?_ 5 _ rfl; (with_reducible repeat (first | apply lN_ | apply lD_ | apply lA_)); refine blk_put (cs := #[.int .i64 0, .int .i64 0, .int .i64 0, .int .i64 0, .int .i64 0, .bool false]) ?_ 4 _ rfl; (with_reducible repeat (first | apply lN_ | apply lD_ | apply lA_)); refine blk_put (cs := #[.int .i64 0, .int .i64 0, .int .i64 0, .int .i64 0, .int .i64 0, .bool false]) ?_ 3 _ rfl; (with_reducible repeat (first | apply lN_ | apply lD_ | apply lA_)); refine blk_put (cs := #[.int .i64 0, .int .i64 0, .int .i64 0, .int .i64 0, .int .i64 0, .bool false]) ?_ 2 _ rfl; (with_reducible repeat (first | apply lN_ | apply lD_ | apply lA_)); refine blk_put (cs := #[.int .i64 0, .int .i64 0, .int .i64 0, .int .i64 0, .int .i64 0, .bool false]) ?_ 1 _ rfl; (with_reducible repeat (first | apply lN_ | apply lD_ | apply lA_)); refine blk_put (cs := #[.int .i64 0, .int .i64 0, .int .i64 0, .int .i64 0, .int .i64 0, .bool false]) ?_ 0 _ rfl; (with_reducible repeat (first | apply lN_ | apply lD_ | apply lA_)); exact BK286.out) Tryz.underlying37 rfl (by kernel_rfl)) rfl ?_
       exact ⟨ew_, bb2_ HB GE286 GE288⟩
     ·replace c20 := Bool.eq_false_iff.mpr c20
      subst c20
      have H1 : (some (0, 0, 0, 0, 0, false, false)) = some (r1, r2, r3, r4, r5, r6, r7) := by rw [if_neg (show ¬ (false = true) by decide)] at H; exact H
      clear H
      have H := H1
      clear H1
      simp only [Option.some.injEq, Prod.mk.injEq] at H
      obtain ⟨rfl, rfl, rfl, rfl, rfl, rfl, rfl⟩ := H
      have hnb36 := NB288_286.out
      have hnc36 := NB286_288.out
      have hcz37_0 := cz0_ BK288
      have hcz37_1 := cz1_ BK288
      have hcz37_2 := cz2_ BK288
      have hcz37_3 := cz3_ BK288
      have hcz37_4 := cz4_ BK288
      have hcz37_5 := cz5_ BK288
      have hfz37_0 := fz_ BK288 0
      have hfz37_1 := fz_ BK288 1
      have hfz37_2 := fz_ BK288 2
      have hfz37_3 := fz_ BK288 3
      have hfz37_4 := fz_ BK288 4
      have hfz37_5 := fz_ BK288 5
      go_wp2_with (first | ((with_reducible refine gate_callee (f := 85) rfl ?_); refine goesL_ (some 28) rfl rfl Tryz.func85 (by kernel_rfl) rfl #[.agg #[.int .i64 x289000_1, .int .i64 x289001_1, .int .i64 x289002_1, .int .i64 x289003_1, .int .i64 x289004_1, .bool ((a0.size : Int) == 6)]] rfl args_ ?_; (with_reducible refine (impl_IsShape.calls x289000_1 x289001_1 x289002_1 x289003_1 x289004_1 ((a0.size : Int) == 6) false _ A19.out).mono ?_); rintro e w38 ⟨rfl, hb⟩; refine ⟨_, rfl, ?_⟩; have n0_ := am_ (blk_below (g := gb286) (o := .cells #[.int .i64 0, .int .i64 0, .int .i64 0, .int .i64 0, .int .i64 0, .bool false] 37 (0, 0)) (by (with_reducible repeat (first | apply lN_ | apply lD_ | apply lA_)); refine blk_far ?_ NB286_288.out _; (with_reducible repeat (first | apply lN_ | apply lD_ | apply lA_)); exact BK286.out) hb); have n1_ := am_ (blk_below (g := gb288) (o := .cells #[.int .i64 x289000_1, .int .i64 x289001_1, .int .i64 x289002_1, .int .i64 x289003_1, .int .i64 x289004_1, .bool ((a0.size : Int) == 6)] 37 (0, 0)) (by (with_reducible repeat (first | apply lN_ | apply lD_ | apply lA_)); refine blk_put (cs := #[.int .i64 x289000_1, .int .i64 x289001_1, .int .i64 x289002_1, .int .i64 x289003_1, .int .i64 x289004_1, .bool x289005_1]) ?_ 5 _ rfl; (with_reducible repeat (first | apply lN_ | apply lD_ | apply lA_)); exact BK288.out) hb); have n2_ := am_ (below_step (bb2_ HB GE286 GE288) hb); clear BK286; clear BK288; clear HB; have BK286 := n0_; have BK288 := n1_; have HB := n2_; clear n0_ n1_ n2_; (try clear hb); (try clear hb2); (try clear hk); (try clear hi); have hcz39_0 := cz0_ BK286; have hcz39_1 := cz1_ BK286; have hcz39_2 := cz2_ BK286; have hcz39_3 := cz3_ BK286; have hcz39_4 := cz4_ BK286; have hcz39_5 := cz5_ BK286; have hfz39_0 := fz_ BK286 0; have hfz39_1 := fz_ BK286 1; have hfz39_2 := fz_ BK286 2; have hfz39_3 := fz_ BK286 3; have hfz39_4 := fz_ BK286 4; have hfz39_5 := fz_ BK286 5))
      refine bodyPost_ret (results_ct rfl _ _ gb286 37 #[.int .i64 0, .int .i64 0, .int .i64 0, .int .i64 0, .int .i64 0, .bool false] (0, 0) _ rfl (by (with_reducible repeat (first | apply lN_ | apply lD_ | apply lA_)); refine blk_put (cs := #[.int .i64 0, .int .i64 0, .int .i64 0, .int .i64 0, .int .i64 0, .bool false]) ?_ 5 _ rfl; (with_reducible repeat (first | apply lN_ | apply lD_ | apply lA_)); refine blk_put (cs := #[.int .i64 0, .int .i64 0, .int .i64 0, .int .i64 0, .int .i64 0, .bool false]) ?_ 4 _ rfl; (with_reducible repeat (first | apply lN_ | apply lD_ | apply lA_)); refine blk_put (cs := #[.int .i64 0, .int .i64 0, .int .i64 0, .int .i64 0, .int .i64 0, .bool false]) ?_ 3 _ rfl; (with_reducible repeat (first | apply lN_ | apply lD_ | apply lA_)); refine blk_put (cs := #[.int .i64 0, .int .i64 0, .int .i64 0, .int .i64 0, .int .i64 0, .bool false]) ?_ 2 _ rfl; (with_reducible repeat (first | apply lN_ | apply lD_ | apply lA_)); refine blk_put (cs := #[.int .i64 0, .int .i64 0, .int .i64 0, .int .i64 0, .int .i64 0, .bool false]) ?_ 1 _ rfl; (with_reducible repeat (first | apply lN_ | apply lD_ | apply lA_)); refine blk_put (cs := #[.int .i64 0, .int .i64 0, .int .i64 0, .int .i64 0, .int .i64 0, .bool false]) ?_ 0 _ rfl; (with_reducible repeat (first | apply lN_ | apply lD_ | apply lA_)); exact BK286.out) Tryz.underlying37 rfl (by kernel_rfl)) rfl ?_
      exact ⟨ew_, bb2_ HB GE286 GE288⟩
 ·replace c3 := Bool.eq_false_iff.mpr c3
  subst c3
  have H1 : (some (0, 0, 0, 0, 0, false, false)) = some (r1, r2, r3, r4, r5, r6, r7) := by rw [if_neg (show ¬ (false = true) by decide)] at H; exact H
  clear H
  have H := H1
  clear H1
  simp only [Option.some.injEq, Prod.mk.injEq] at H
  obtain ⟨rfl, rfl, rfl, rfl, rfl, rfl, rfl⟩ := H
  go_enter Tryz.func125, Tryz.ntmps125
  go_wp2_with (first | ((with_reducible refine gate_dst (N := 2) rfl ?_); refine bx_ (cs := #[.int .i64 0, .int .i64 0, .int .i64 0, .int .i64 0, .int .i64 0, .bool false]) (t := 37) ?_; intro gb286 hg w40 hbox hb; have BK286 := am_ (hbox); have GW286 := gz_ hg HB; have GE286 := gz_ hg HB; replace HB := am_ (bt_ HB hb); clear hb hbox hg) | ((with_reducible refine gate_callee (f := 63) rfl ?_); refine goesL_ (some 8) rfl rfl Tryz.func63 (by kernel_rfl) rfl #[.int .i64 (a0.size : Int), .int .i64 5, .int .i64 6] rfl args_ ?_; (with_reducible refine (impl_within.calls (w := _) (h := A2.out)).mono ?_); rintro e w' ⟨rfl, ⟨nd, rfl⟩⟩; refine ⟨_, rfl, ?_⟩; (try (rw [drewN_self w40]; generalize hq_ : World.drewN w40 _ = w40; have n0_ : Aside0 (w40.heap[gb286]? = some (.cells #[.int .i64 0, .int .i64 0, .int .i64 0, .int .i64 0, .int .i64 0, .bool false] 37 (0, 0))) := ⟨by rw [← hq_]; exact (la_ BK286)⟩; have n1_ : Aside0 (Below w.heap.size w w40) := ⟨by rw [← hq_]; exact (bb1_ HB GE286)⟩; clear BK286 HB hq_; have BK286 := n0_; have HB := n1_; clear n0_ n1_)); have hcz41_0 := cz0_ BK286; have hcz41_1 := cz1_ BK286; have hcz41_2 := cz2_ BK286; have hcz41_3 := cz3_ BK286; have hcz41_4 := cz4_ BK286; have hcz41_5 := cz5_ BK286; have hfz41_0 := fz_ BK286 0; have hfz41_1 := fz_ BK286 1; have hfz41_2 := fz_ BK286 2; have hfz41_3 := fz_ BK286 3; have hfz41_4 := fz_ BK286 4; have hfz41_5 := fz_ BK286 5))
  refine bodyPost_ret (results_ct rfl _ _ gb286 37 #[.int .i64 0, .int .i64 0, .int .i64 0, .int .i64 0, .int .i64 0, .bool false] (0, 0) _ rfl (by (with_reducible repeat (first | apply lN_ | apply lD_ | apply lA_)); refine blk_put (cs := #[.int .i64 0, .int .i64 0, .int .i64 0, .int .i64 0, .int .i64 0, .bool false]) ?_ 5 _ rfl; (with_reducible repeat (first | apply lN_ | apply lD_ | apply lA_)); refine blk_put (cs := #[.int .i64 0, .int .i64 0, .int .i64 0, .int .i64 0, .int .i64 0, .bool false]) ?_ 4 _ rfl; (with_reducible repeat (first | apply lN_ | apply lD_ | apply lA_)); refine blk_put (cs := #[.int .i64 0, .int .i64 0, .int .i64 0, .int .i64 0, .int .i64 0, .bool false]) ?_ 3 _ rfl; (with_reducible repeat (first | apply lN_ | apply lD_ | apply lA_)); refine blk_put (cs := #[.int .i64 0, .int .i64 0, .int .i64 0, .int .i64 0, .int .i64 0, .bool false]) ?_ 2 _ rfl; (with_reducible repeat (first | apply lN_ | apply lD_ | apply lA_)); refine blk_put (cs := #[.int .i64 0, .int .i64 0, .int .i64 0, .int .i64 0, .int .i64 0, .bool false]) ?_ 1 _ rfl; (with_reducible repeat (first | apply lN_ | apply lD_ | apply lA_)); refine blk_put (cs := #[.int .i64 0, .int .i64 0, .int .i64 0, .int .i64 0, .int .i64 0, .bool false]) ?_ 0 _ rfl; (with_reducible repeat (first | apply lN_ | apply lD_ | apply lA_)); exact BK286.out) Tryz.underlying37 rfl (by kernel_rfl)) rfl ?_
  exact ⟨ew_, bb1_ HB GE286⟩

/-! ### impl_PlainShapes: function 91 -/
def impl_PlainShapes.l0 : Nat → List (S37) → List ByteArray → Int → Int → Option ((List (S37)))
 | 0, _, _, _, _ => none
 | k + 1, x1, x6, x7, x8 => if x8 < x7 then (if 0 ≤ x8 then (if x8 < (x6.length : Int) then ((impl_ParseShape.f k (rdOf ByteArray.empty x6 x8)).bind fun bt301 => (if x1.length < 2932031007402 then (impl_PlainShapes.l0 k (x1 ++ [(⟨bt301.1, bt301.2.1, bt301.2.2.1, bt301.2.2.2.1, bt301.2.2.2.2.1, bt301.2.2.2.2.2.1⟩ : S37)]) x6 x7 (wrap64 (x8 + 1))) else (none))) else (none)) else (none)) else (some x1)
def impl_PlainShapes.f (k : Nat)  : Option ((List (S37))) := (some (([(⟨#[48, 48, 48, 48, 48]⟩ : ByteArray), (⟨#[48, 48, 48, 48, 48, 115]⟩ : ByteArray), (⟨#[50, 50, 50, 50, 50]⟩ : ByteArray), (⟨#[49, 48, 48, 48, 48]⟩ : ByteArray), (⟨#[49, 48, 50, 50, 50]⟩ : ByteArray), (⟨#[48, 48, 50, 50, 50]⟩ : ByteArray)] : List ByteArray) : List ByteArray)).bind fun y297 => (impl_PlainShapes.l0 k ([] : List (S37)) y297 (y297.length : Int) 0)
theorem impl_PlainShapes.mono_l : ∀ k, (∀ y0 y1 y2 y3, LeO (impl_PlainShapes.l0 k y0 y1 y2 y3) (impl_PlainShapes.l0 (k + 1) y0 y1 y2 y3))
 | 0 => fun _ _ _ _ r h => by simp [impl_PlainShapes.l0] at h
 | k + 1 => by
  have ih0 := impl_PlainShapes.mono_l k
  ·intro y0 y1 y2 y3
   unfold impl_PlainShapes.l0
   repeat' first
   | (with_reducible exact ih0 _ _ _ _)
   | (with_reducible exact impl_ParseShape.mono _ _)
   | (with_reducible exact LeO.refl _)
   | (with_reducible exact LeO.none _)
   | (with_reducible refine LeO.ite ?_ ?_)
   | (with_reducible refine LeO.bind ?_ (fun _ => ?_))
   | exact ih0 _ _ _ _
   | exact LeO.none _
   | refine LeO.ite ?_ ?_
   | refine LeO.bind ?_ (fun _ => ?_)
theorem impl_PlainShapes.mono : ∀ k, LeO (impl_PlainShapes.f k ) (impl_PlainShapes.f (k + 1) ) := by
 intro  k
 have ih0 := impl_PlainShapes.mono_l k
 unfold impl_PlainShapes.f
 repeat' first
   | (with_reducible exact ih0 _ _ _ _)
   | (with_reducible exact impl_ParseShape.mono _ _)
   | (with_reducible exact LeO.refl _)
   | (with_reducible exact LeO.none _)
   | (with_reducible refine LeO.ite ?_ ?_)
   | (with_reducible refine LeO.bind ?_ (fun _ => ?_))
   | exact ih0 _ _ _ _
   | exact LeO.none _
   | refine LeO.ite ?_ ?_
   | refine LeO.bind ?_ (fun _ => ?_)
set_option maxHeartbeats 8000000 in
set_option maxRecDepth 100000 in
theorem impl_PlainShapes.calls (k : Nat)  (r : List (S37)) (w : World) (h : impl_PlainShapes.f k  = some r) :
  Calls Tryz.prog 91 #[] w fun e w' => ∃ v0_ : Value, e = .returned (v0_) ∧ Kd.R k37 37 w' w.heap.size (fun _ => True) v0_ r ∧ Below w.heap.size w w' := by
 have hu37 := Tryz.underlying37
 have HB := am_ (Below.refl w.heap.size w)
 have H : ((some (([(⟨#[48, 48, 48, 48, 48]⟩ : ByteArray), (⟨#[48, 48, 48, 48, 48, 115]⟩ : ByteArray), (⟨#[50, 50, 50, 50, 50]⟩ : ByteArray), (⟨#[49, 48, 48, 48, 48]⟩ : ByteArray), (⟨#[49, 48, 50, 50, 50]⟩ : ByteArray), (⟨#[48, 48, 50, 50, 50]⟩ : ByteArray)] : List ByteArray) : List ByteArray)).bind fun y297 => (impl_PlainShapes.l0 k ([] : List (S37)) y297 (y297.length : Int) 0)) = some r := h
 clear h
 obtain ⟨y297, hy297⟩ : ∃ y_ : List ByteArray, y_ = (([(⟨#[48, 48, 48, 48, 48]⟩ : ByteArray), (⟨#[48, 48, 48, 48, 48, 115]⟩ : ByteArray), (⟨#[50, 50, 50, 50, 50]⟩ : ByteArray), (⟨#[49, 48, 48, 48, 48]⟩ : ByteArray), (⟨#[49, 48, 50, 50, 50]⟩ : ByteArray), (⟨#[48, 48, 50, 50, 50]⟩ : ByteArray)] : List ByteArray)) := ⟨_, rfl⟩
 replace H : (impl_PlainShapes.l0 k ([] : List (S37)) y297 (y297.length : Int) 0) = some r := by first | (rw [hy297]; with_reducible exact H) | (have H2_ := (Option.bind_some _ _).symm.trans H; rw [hy297]; with_reducible exact H2_) | (have H2_ := (Option.bind_some _ _).symm.trans H; with_reducible exact H2_) | with_reducible exact H | (rw [hy297]; exact H) | exact H
 have Ny297 := Aside0.mk hy297
 clear hy297
 have H' := Aside0.mk H
 clear H
 go_enter Tryz.func91, Tryz.ntmps91
 go_wp2_with (first | ((with_reducible refine gate_dst (N := 6) rfl ?_); refine Kd.R_lit Kd.string _ 9 ?hg (N := 6) ?hd (xs := ([(⟨#[48, 48, 48, 48, 48]⟩ : ByteArray), (⟨#[48, 48, 48, 48, 48, 115]⟩ : ByteArray), (⟨#[50, 50, 50, 50, 50]⟩ : ByteArray), (⟨#[49, 48, 48, 48, 48]⟩ : ByteArray), (⟨#[49, 48, 50, 50, 50]⟩ : ByteArray), (⟨#[48, 48, 50, 50, 50]⟩ : ByteArray)] : List ByteArray)) (inner := [.string (⟨#[48, 48, 48, 48, 48]⟩ : ByteArray), .string (⟨#[48, 48, 48, 48, 48, 115]⟩ : ByteArray), .string (⟨#[50, 50, 50, 50, 50]⟩ : ByteArray), .string (⟨#[49, 48, 48, 48, 48]⟩ : ByteArray), .string (⟨#[49, 48, 50, 50, 50]⟩ : ByteArray), .string (⟨#[48, 48, 50, 50, 50]⟩ : ByteArray)]) (ok := fun _ => True) (okp := fun _ => True) ?hr ?hp (fun _ hk => hk) trivial (Below.refl _ _) (Nat.le_refl _) (by simp) ?_; (case hd => rfl); (case hg => rfl); (case hr => first | (go_simp; done) | (go_simp; rfl)); (case hp => exact (Reps.one (show Kd.M Kd.string _ _ _ (⟨#[48, 48, 48, 48, 48]⟩ : ByteArray) [.string (⟨#[48, 48, 48, 48, 48]⟩ : ByteArray)] from rfl) (Reps.one (show Kd.M Kd.string _ _ _ (⟨#[48, 48, 48, 48, 48, 115]⟩ : ByteArray) [.string (⟨#[48, 48, 48, 48, 48, 115]⟩ : ByteArray)] from rfl) (Reps.one (show Kd.M Kd.string _ _ _ (⟨#[50, 50, 50, 50, 50]⟩ : ByteArray) [.string (⟨#[50, 50, 50, 50, 50]⟩ : ByteArray)] from rfl) (Reps.one (show Kd.M Kd.string _ _ _ (⟨#[49, 48, 48, 48, 48]⟩ : ByteArray) [.string (⟨#[49, 48, 48, 48, 48]⟩ : ByteArray)] from rfl) (Reps.one (show Kd.M Kd.string _ _ _ (⟨#[49, 48, 50, 50, 50]⟩ : ByteArray) [.string (⟨#[49, 48, 50, 50, 50]⟩ : ByteArray)] from rfl) (Reps.one (show Kd.M Kd.string _ _ _ (⟨#[48, 48, 50, 50, 50]⟩ : ByteArray) [.string (⟨#[48, 48, 50, 50, 50]⟩ : ByteArray)] from rfl) (Reps.none _ _)))))))); intro v298 w1 ho2 hb hg_ hnew_; clear hg_ hnew_; (first | rw [← Ny297.out] at ho2 | (simp only [Int.reduceToNat] at ho2; rw [← Ny297.out] at ho2)); have HO299 := am_ (Kd.R_lower ho2 (bz_ HB)); replace HB := am_ (bt_ HB hb); clear hb ho2; obtain ⟨Ao3, co3, eo3⟩ := Kd.R_slice HO299.out; subst eo3))
 go_loopg [1, 8] k (fun kq v1 v8 w' => ∃ (x1_1 : List (S37)) (x8_1 : Int), v8 = .int .i64 x8_1 ∧ Aside0 (impl_PlainShapes.l0 kq x1_1 y297 (y297.length : Int) x8_1 = some r) ∧ Aside0 (kq ≤ k) ∧ Aside0 (Kd.R k37 37 w' w.heap.size (fun _ => True) v1 x1_1) ∧ Aside0 (Kd.R Kd.string 9 w' w.heap.size (fun _ => True) (.slice Ao3 y297.length co3) y297) ∧ Aside0 (Below w.heap.size w w'))
 case atStart => exact ⟨(([] : List (S37))), (0), (by first | rfl | (simp; done) | (simp [*]; done)), H', ⟨Nat.le_refl _⟩, ⟨by first | exact Kd.R_nil _ _ _ _ _ | exact Kd.N_nil _ _ _ _ _ | exact Kd.V_nil _ _ _ _ _ | exact Kd.Q_nil _ _ _ _ _ | exact Kd.S_nil _ _ _ _ _⟩, ⟨by (with_reducible repeat (first | apply rA_ | apply rN_ | apply rD_)); exact HO299.out⟩, ⟨bb_ HB⟩⟩
 case round =>
  clear H'
  try clear p2
  obtain ⟨x1_1, x8_1, rfl, HA, HK1, HO_1, HO_6, HB⟩ := hrel
  cases gk with
  | zero => exact absurd HA.out (by simp [impl_PlainShapes.l0])
  | succ k1 =>
   have H := HA.out
   clear HA
   simp only [impl_PlainShapes.l0] at H
   by_cases c4 : x8_1 < (y297.length : Int)
   ·rw [if_pos c4] at H
    have c4b0 : decide (x8_1 < (y297.length : Int)) = true := decide_eq_true c4
    clear c4
    by_cases c5 : 0 ≤ x8_1
    ·rw [if_pos c5] at H
     have c5b0 : decide (0 ≤ x8_1) = true := decide_eq_true c5
     clear c5
     by_cases c6 : x8_1 < (y297.length : Int)
     ·rw [if_pos c6] at H
      have c6b0 : decide (x8_1 < (y297.length : Int)) = true := decide_eq_true c6
      clear c6
      replace H := Option.bind_eq_some_iff.mp H
      obtain ⟨⟨t301, t302, t303, t304, t305, t306, t307⟩, A70, H⟩ := H
      try dsimp only at H
      have A7 := Aside0.mk A70
      clear A70
      by_cases c8 : x1_1.length < 2932031007402
      ·rw [if_pos c8] at H
       have LMc8 := Aside0.mk c8
       clear c8
       obtain ⟨y309, hy309⟩ : ∃ y_ : List (S37), y_ = (x1_1 ++ [(⟨t301, t302, t303, t304, t305, t306⟩ : S37)]) := ⟨_, rfl⟩
       replace H : (impl_PlainShapes.l0 k1 y309 y297 (y297.length : Int) (wrap64 (x8_1 + 1))) = some r := by first | (rw [hy309]; with_reducible exact H) | (have H2_ := (Option.bind_some _ _).symm.trans H; rw [hy309]; with_reducible exact H2_) | (have H2_ := (Option.bind_some _ _).symm.trans H; with_reducible exact H2_) | with_reducible exact H | (rw [hy309]; exact H) | exact H
       have Ny309 := Aside0.mk hy309
       clear hy309
       have H' := Aside0.mk H
       clear H
       have p300 : 0 ≤ (x8_1 : Int) := of_decide_eq_true as_
       have q300 : x8_1 < (y297.length : Int) := of_decide_eq_true as_
       obtain ⟨ad300, e300, hx300_0⟩ := Kd.at_string (Kd.R_reads' HO_6.out).2.2 x8_1 p300 q300
       cases e300
       replace p300 := eq_true p300
       replace q300 := eq_true q300
       go_wp2_with (first | ((with_reducible refine gate_callee (f := 125) rfl ?_); refine goesL_ (some 14) rfl rfl Tryz.func125 (by kernel_rfl) rfl #[.string (rdOf ByteArray.empty y297 x8_1)] rfl args_ ?_; (with_reducible refine (impl_ParseShape.calls (w := _) (h := A7.out)).mono ?_); rintro e w9 ⟨rfl, hb⟩; refine ⟨_, rfl, ?_⟩; replace HO_1 := am_ (Kd.R_below (ra_ HO_1) hb); replace HO_6 := am_ (Kd.R_below (ra_ HO_6) hb); replace HB := am_ (bt_ HB hb); clear hb) | ((with_reducible refine gate_dst (N := 4) rfl ?_); refine bx_ (cs := #[.int .i64 0, .int .i64 0, .int .i64 0, .int .i64 0, .int .i64 0, .bool false]) (t := 37) ?_; intro gb308 hg w10 hbox hb; replace HO_1 := am_ (Kd.R_below (Kd.R_elderB (ra_ HO_1) gb308 (Nat.le_of_eq hg.symm)) hb); replace HO_6 := am_ (Kd.R_below (ra_ HO_6) hb); have BK308 := am_ (hbox); have GW308 := gz_ hg HB; have GE308 := gz_ hg HB; replace HB := am_ (bt_ HB hb); clear hb hbox hg; have hcz11_0 := cz0_ BK308; have hcz11_1 := cz1_ BK308; have hcz11_2 := cz2_ BK308; have hcz11_3 := cz3_ BK308; have hcz11_4 := cz4_ BK308; have hcz11_5 := cz5_ BK308; have hfz11_0 := fz_ BK308 0; have hfz11_1 := fz_ BK308 1; have hfz11_2 := fz_ BK308 2; have hfz11_3 := fz_ BK308 3; have hfz11_4 := fz_ BK308 4; have hfz11_5 := fz_ BK308 5) | ((with_reducible refine gate_builtin (b := .append) (xs := #[.tmp 17, .tmp 19]) rfl ?_); at_builtin; refine Kd.R_append k37 (w0 := w) w.heap.size rfl (.tmp 17) (.tmp 19) 106 37 (.agg #[(.int .i64 0), (.int .i64 0), (.int .i64 0), (.int .i64 0), (.int .i64 0), (.bool false)]) 48 rfl Tryz.underlying106 info37 rfl (by decide) (by omega) u1 x1_1 (⟨t301, t302, t303, t304, t305, t306⟩ : S37) [.int .i64 t301, .int .i64 t302, .int .i64 t303, .int .i64 t304, .int .i64 t305, .bool t306] (fun k_ => k_ ≠ gb308) (fun _ => False) rfl (by first | (go_simp; done) | (go_simp; rfl)) ?aP (fun _ hk => hk.elim) ?aF ?aO ?aB ?aS ?aL ?_; (case aP => exact k37_mkM _ _ _ (⟨t301, t302, t303, t304, t305, t306⟩ : S37)); (case aB => exact (bb1_ HB GE308)); (case aF => exact (fun k_ hk => Kd.freshB (g := gb308) (o := .cells #[.int .i64 t301, .int .i64 t302, .int .i64 t303, .int .i64 t304, .int .i64 t305, .bool t306] 37 (0, 0)) (by (with_reducible repeat (first | apply lN_ | apply lD_ | apply lA_)); refine blk_put (cs := #[.int .i64 t301, .int .i64 t302, .int .i64 t303, .int .i64 t304, .int .i64 t305, .bool false]) ?_ 5 _ rfl; (with_reducible repeat (first | apply lN_ | apply lD_ | apply lA_)); refine blk_put (cs := #[.int .i64 t301, .int .i64 t302, .int .i64 t303, .int .i64 t304, .int .i64 0, .bool false]) ?_ 4 _ rfl; (with_reducible repeat (first | apply lN_ | apply lD_ | apply lA_)); refine blk_put (cs := #[.int .i64 t301, .int .i64 t302, .int .i64 t303, .int .i64 0, .int .i64 0, .bool false]) ?_ 3 _ rfl; (with_reducible repeat (first | apply lN_ | apply lD_ | apply lA_)); refine blk_put (cs := #[.int .i64 t301, .int .i64 t302, .int .i64 0, .int .i64 0, .int .i64 0, .bool false]) ?_ 2 _ rfl; (with_reducible repeat (first | apply lN_ | apply lD_ | apply lA_)); refine blk_put (cs := #[.int .i64 t301, .int .i64 0, .int .i64 0, .int .i64 0, .int .i64 0, .bool false]) ?_ 1 _ rfl; (with_reducible repeat (first | apply lN_ | apply lD_ | apply lA_)); refine blk_put (cs := #[.int .i64 0, .int .i64 0, .int .i64 0, .int .i64 0, .int .i64 0, .bool false]) ?_ 0 _ rfl; (with_reducible repeat (first | apply lN_ | apply lD_ | apply lA_)); exact BK308.out) k_ hk)); (case aO => exact (by (with_reducible repeat (first | apply rA_ | apply rN_ | apply rD_)); exact Kd.R_mono (Kd.R_far (p := ⟨gb308, 5, none⟩) (Kd.R_far (p := ⟨gb308, 4, none⟩) (Kd.R_far (p := ⟨gb308, 3, none⟩) (Kd.R_far (p := ⟨gb308, 2, none⟩) (Kd.R_far (p := ⟨gb308, 1, none⟩) (Kd.R_far (p := ⟨gb308, 0, none⟩) (Kd.R_mono HO_1.out (fun k_ hk => (⟨hk, hk.2⟩ : _ ∧ k_ ≠ gb308))) (fun _ hk => hk.2) (.int .i64 t301)) (fun _ hk => hk.2) (.int .i64 t302)) (fun _ hk => hk.2) (.int .i64 t303)) (fun _ hk => hk.2) (.int .i64 t304)) (fun _ hk => hk.2) (.int .i64 t305)) (fun _ hk => hk.2) (.bool t306)) (fun _ hk => hk.1.2))); (case aS => exact (below_size (bb1_ HB GE308))); (case aL => have := LMc8.out; omega); intro v310 w12 ho hb hg hat; rw [← Ny309.out] at ho; have n0_ := am_ (Kd.R_over' (rf_ (fm_ (fr_ (fr_ (fr_ (fr_ (fr_ (fr_ (ft_ HO_6 BK308) 0 (.int .i64 t301)) 1 (.int .i64 t302)) 2 (.int .i64 t303)) 3 (.int .i64 t304)) 4 (.int .i64 t305)) 5 (.bool t306)))) (Kd.R_typed (by (with_reducible repeat (first | apply rA_ | apply rN_ | apply rD_)); exact (Kd.R_mono (Kd.R_far (p := ⟨gb308, 5, none⟩) (Kd.R_far (p := ⟨gb308, 4, none⟩) (Kd.R_far (p := ⟨gb308, 3, none⟩) (Kd.R_far (p := ⟨gb308, 2, none⟩) (Kd.R_far (p := ⟨gb308, 1, none⟩) (Kd.R_far (p := ⟨gb308, 0, none⟩) (Kd.R_mono HO_1.out (fun k_ hk => (⟨hk, hk.2⟩ : _ ∧ k_ ≠ gb308))) (fun _ hk => hk.2) (.int .i64 t301)) (fun _ hk => hk.2) (.int .i64 t302)) (fun _ hk => hk.2) (.int .i64 t303)) (fun _ hk => hk.2) (.int .i64 t304)) (fun _ hk => hk.2) (.int .i64 t305)) (fun _ hk => hk.2) (.bool t306)) (fun _ h_ => h_.1)))) (by decide) hg); have n1_ := am_ (blk_grown (g := gb308) (o := .cells #[.int .i64 t301, .int .i64 t302, .int .i64 t303, .int .i64 t304, .int .i64 t305, .bool t306] 37 (0, 0)) (by (with_reducible repeat (first | apply lN_ | apply lD_ | apply lA_)); refine blk_put (cs := #[.int .i64 t301, .int .i64 t302, .int .i64 t303, .int .i64 t304, .int .i64 t305, .bool false]) ?_ 5 _ rfl; (with_reducible repeat (first | apply lN_ | apply lD_ | apply lA_)); refine blk_put (cs := #[.int .i64 t301, .int .i64 t302, .int .i64 t303, .int .i64 t304, .int .i64 0, .bool false]) ?_ 4 _ rfl; (with_reducible repeat (first | apply lN_ | apply lD_ | apply lA_)); refine blk_put (cs := #[.int .i64 t301, .int .i64 t302, .int .i64 t303, .int .i64 0, .int .i64 0, .bool false]) ?_ 3 _ rfl; (with_reducible repeat (first | apply lN_ | apply lD_ | apply lA_)); refine blk_put (cs := #[.int .i64 t301, .int .i64 t302, .int .i64 0, .int .i64 0, .int .i64 0, .bool false]) ?_ 2 _ rfl; (with_reducible repeat (first | apply lN_ | apply lD_ | apply lA_)); refine blk_put (cs := #[.int .i64 t301, .int .i64 0, .int .i64 0, .int .i64 0, .int .i64 0, .bool false]) ?_ 1 _ rfl; (with_reducible repeat (first | apply lN_ | apply lD_ | apply lA_)); refine blk_put (cs := #[.int .i64 0, .int .i64 0, .int .i64 0, .int .i64 0, .int .i64 0, .bool false]) ?_ 0 _ rfl; (with_reducible repeat (first | apply lN_ | apply lD_ | apply lA_)); exact BK308.out) hg (Kd.R_away HO_1.out (fun _ hk => hk.2))); have n2_ := am_ (hb); have n3_ := am_ (ho); clear HO_6; clear BK308; clear HB; clear HO_1; have HO_6 := n0_; have BK308 := n1_; have HB := n2_; have HO311 := n3_; clear n0_ n1_ n2_ n3_; clear ho hb hg hat))
       go_roundg k1
       case measure => have := HK1.out; omega
       case rel => exact ⟨(y309), (wrap64 (x8_1 + 1)), (by first | rfl | (simp; done) | (simp [*]; done)), H', ⟨by have := HK1.out; omega⟩, ⟨by (with_reducible repeat (first | apply rA_ | apply rN_ | apply rD_)); exact Kd.R_mono HO311.out (fun _ hk => trivial)⟩, ⟨by (with_reducible repeat (first | apply rA_ | apply rN_ | apply rD_)); exact HO_6.out⟩, ⟨bb1_ HB GE308⟩⟩
      ·rw [if_neg c8] at H
       exact absurd H (by simp)
     ·rw [if_neg c6] at H
      exact absurd H (by simp)
    ·rw [if_neg c5] at H
     exact absurd H (by simp)
   ·rw [if_neg c4] at H
    have c4b0 : decide (x8_1 < (y297.length : Int)) = false := decide_eq_false c4
    clear c4
    obtain rfl := Option.some.inj H
    go_wp2
    go_ret
    exact ⟨_, ew_, by (with_reducible repeat (first | apply rA_ | apply rN_ | apply rD_)); exact HO_1.out, bb_ HB⟩

-- NOT PRINTED: function 126 (impl_Orient_mirrored_1)

/-! ### impl_Orient_mirrored: function 92 -/
def orSw (d : Int) : Int := if d = 2 then 3 else if d = 3 then 2 else d
def impl_Orient_mirrored.f (a0_0 a0_1 : Int) : Option (Int × Int) := some (orSw a0_0, orSw a0_1)
set_option maxHeartbeats 4000000 in
set_option maxRecDepth 100000 in
theorem orSw_calls (d : Int) (w : World) : Calls Tryz.prog 126 #[.int .i64 d] w fun e w' => e = .returned (.int .i64 (orSw d)) ∧ Drawn0 w w' := by
 have h : (d = 2) ∨ (d = 3) ∨ (¬ d = 2 ∧ ¬ d = 3) := by omega
 rcases h with rfl | rfl | ⟨h2, h3⟩
 ·go_enter Tryz.func126, Tryz.ntmps126
  go_wp2
  go_ret
  exact ⟨rfl, by repeat (first | exact Drawn0.refl _ | apply Drawn0.step)⟩
 ·go_enter Tryz.func126, Tryz.ntmps126
  go_wp2
  go_ret
  exact ⟨rfl, by repeat (first | exact Drawn0.refl _ | apply Drawn0.step)⟩
 ·have e : orSw d = d := by unfold orSw; rw [if_neg h2, if_neg h3]
  rw [e]
  have c2 : (d == 2) = false := by simpa using h2
  have c3 : (d == 3) = false := by simpa using h3
  clear e h2 h3
  go_enter Tryz.func126, Tryz.ntmps126
  go_wp2
  go_ret
  exact ⟨rfl, by repeat (first | exact Drawn0.refl _ | apply Drawn0.step)⟩
set_option maxHeartbeats 4000000 in
set_option maxRecDepth 100000 in
theorem impl_Orient_mirrored.calls (a0_0 a0_1 r1 r2 : Int) (w : World) (h : impl_Orient_mirrored.f a0_0 a0_1 = some (r1, r2)) :
  Calls Tryz.prog 92 #[.agg #[.int .i64 a0_0, .int .i64 a0_1]] w fun e w' => e = .returned (.agg #[.int .i64 r1, .int .i64 r2]) ∧ Below w.heap.size w w' := by
 unfold impl_Orient_mirrored.f at h
 simp only [Option.some.injEq, Prod.mk.injEq] at h
 obtain ⟨rfl, rfl⟩ := h
 have HB := am_ (Below.refl w.heap.size w)
 have HC0 := am_ (fun W => orSw_calls a0_0 W)
 have HC1 := am_ (fun W => orSw_calls a0_1 W)
 generalize orSw a0_0 = s0 at HC0
 generalize orSw a0_1 = s1 at HC1
 go_enter Tryz.func92, Tryz.ntmps92
 go_wp2_with (first
  | ((with_reducible refine gate_dst (N := 1) rfl ?_); refine bx_ (cs := #[.int .i64 a0_0, .int .i64 a0_1]) (t := 38) ?_; intro g1 hg1 w1 hbox hb; have BK1 := Aside0.mk hbox; have HB1 := Aside0.mk hb; clear hbox hb hg1 HB)
  | ((with_reducible refine gate_dst (N := 2) rfl ?_); refine bx_ (cs := #[.int .i64 0, .int .i64 0]) (t := 38) ?_; intro g2 hg2 w2 hbox hb; have BK1r := am_ (blk_below BK1.out hb); have BK2 := Aside0.mk hbox; have GE2 := am_ (show w.heap.size ≤ g2 by rw [hg2]; exact below_size HB1.out); have HB2 := am_ (below_step HB1.out hb); clear hbox hb hg2 BK1 HB1))
 have d0 := cz0_ BK1r
 have d1 := cz1_ BK1r
 have d2 := cz0_ BK2
 have d3 := cz1_ BK2
 have z2 : w2.frozen? ⟨g2, 0, none⟩ = false := fz_ BK2 0
 have z3 : w2.frozen? ⟨g2, 1, none⟩ = false := fz_ BK2 1
 go_region_with (first
  | (go_at_call 126; (with_reducible refine (HC0.out _).mono ?_); rintro e wq ⟨rfl, ⟨nd, rfl⟩⟩)
  | (go_at_call 126; (with_reducible refine (HC1.out _).mono ?_); rintro e wq ⟨rfl, ⟨nd, rfl⟩⟩))
 all_goals
  go_wp2
  refine bodyPost_ret (results_cell_row rfl _ _ g2 38 #[.int .i64 s0, .int .i64 s1] (0, 0) _ rfl (by (with_reducible repeat (first | apply lN_ | apply lD_ | apply lA_)); refine blk_put (cs := #[.int .i64 s0, .int .i64 0]) ?_ 1 _ rfl; (with_reducible repeat (first | apply lN_ | apply lD_ | apply lA_)); refine blk_put (cs := #[.int .i64 0, .int .i64 0]) ?_ 0 _ rfl; (with_reducible repeat (first | apply lN_ | apply lD_ | apply lA_)); exact BK2.out) Tryz.underlying38 rfl (by kernel_rfl)) rfl ?_
  exact ⟨rfl, by repeat (first | exact HB2.out | apply pw_below_drewN | apply below_drew1 | refine bS_ ?_ GE2.out)⟩

/-! ### strings_Repeat: function 104 -/
def strings_Repeat.f (a0 : ByteArray) (a1 : Int) : Option ByteArray :=
 if 0 ≤ a1 ∧ a1 ≤ 9223372036854775807 ∧ a0.size * a1.toNat ≤ 140737488355328 then some ⟨(Lib.repeatL a0.data.toList a1.toNat).toArray⟩ else none
theorem strings_Repeat.calls (a0 : ByteArray) (a1 : Int) (r : ByteArray) (w : World) (h : strings_Repeat.f a0 a1 = some r) :
  Calls Tryz.prog 104 #[.string a0, .int .i64 a1] w fun e w' => e = .returned (.string r) ∧ Below w.heap.size w w' := by
 unfold strings_Repeat.f at h
 split at h
 ·rename_i hc
  obtain rfl := Option.some.inj h
  obtain ⟨c, rfl⟩ := Int.eq_ofNat_of_zero_le hc.1
  exact Tryz.strings_Repeat a0 c w (by omega) (by simpa using hc.2.2)
 ·exact absurd h (by simp)

/-! ### impl_Move_all: function 93 -/
def impl_Move_all.f (a0_0 : ByteArray) (a0_1 : Int) : Option (ByteArray) := (strings_Repeat.f a0_0 a0_1).bind fun t313 => (some t313)
set_option maxHeartbeats 8000000 in
set_option maxRecDepth 100000 in
theorem impl_Move_all.calls (a0_0 : ByteArray) (a0_1 : Int) (r : ByteArray) (w : World) (h : impl_Move_all.f a0_0 a0_1 = some r) :
  Calls Tryz.prog 93 #[.agg #[.string a0_0, .int .i64 a0_1]] w fun e w' => e = .returned (.string r) ∧ Below w.heap.size w w' := by
 have hu40 := Tryz.underlying40
 have HB := am_ (Below.refl w.heap.size w)
 have H : ((strings_Repeat.f a0_0 a0_1).bind fun t313 => (some t313)) = some r := h
 clear h
 replace H := Option.bind_eq_some_iff.mp H
 obtain ⟨t313, A20, H⟩ := H
 try dsimp only at H
 have A2 := Aside0.mk A20
 clear A20
 obtain rfl := Option.some.inj H
 go_enter Tryz.func93, Tryz.ntmps93
 go_wp2_with (first | ((with_reducible refine gate_dst (N := 1) rfl ?_); refine bx_ (cs := #[.string a0_0, .int .i64 a0_1]) (t := 40) ?_; intro gb312 hg w3 hbox hb; have BK312 := am_ (hbox); have GW312 := gz_ hg HB; have GE312 := gz_ hg HB; replace HB := am_ (bt_ HB hb); clear hb hbox hg; have hcz4_0 := cz0_ BK312; have hcz4_1 := cz1_ BK312) | ((with_reducible refine gate_callee (f := 104) rfl ?_); refine goesL_ (some 7) rfl rfl Tryz.func104 (by kernel_rfl) rfl #[.string a0_0, .int .i64 a0_1] rfl args_ ?_; (with_reducible refine (strings_Repeat.calls a0_0 a0_1 t313 _ A2.out).mono ?_); rintro e w5 ⟨rfl, hb⟩; refine ⟨_, rfl, ?_⟩; replace BK312 := am_ (lb_ BK312 hb); replace HB := am_ (below_step (bb1_ HB GE312) hb); clear hb))
 go_ret
 exact ⟨ew_, bb1_ HB GE312⟩

/-! ### impl_Move_mirrored: function 94 -/
def impl_Move_mirrored.f (a0_0 : ByteArray) (a0_1 : Int) : Option (ByteArray × Int) := if a0_0.size ≤ 1000000 then some (mirS a0_0, a0_1) else none
set_option maxHeartbeats 4000000 in
set_option maxRecDepth 100000 in
theorem impl_Move_mirrored.calls (a0_0 : ByteArray) (a0_1 : Int) (r1 : ByteArray) (r2 : Int) (w : World) (h : impl_Move_mirrored.f a0_0 a0_1 = some (r1, r2)) :
  Calls Tryz.prog 94 #[.agg #[.string a0_0, .int .i64 a0_1]] w fun e w' => e = .returned (.agg #[.string r1, .int .i64 r2]) ∧ Below w.heap.size w w' := by
 unfold impl_Move_mirrored.f at h
 by_cases hs : a0_0.size ≤ 1000000
 ·rw [if_pos hs] at h
  simp only [Option.some.injEq, Prod.mk.injEq] at h
  obtain ⟨rfl, rfl⟩ := h
  have HS := Aside0.mk hs
  have HB := am_ (Below.refl w.heap.size w)
  clear hs
  go_enter Tryz.func94, Tryz.ntmps94
  go_wp2_with (first
   | ((with_reducible refine gate_dst (N := 1) rfl ?_); refine bx_ (cs := #[.string a0_0, .int .i64 a0_1]) (t := 40) ?_; intro g1 hg1 w1 hbox hb; have BK1 := Aside0.mk hbox; have HB1 := Aside0.mk hb; clear hbox hb hg1 HB)
   | ((with_reducible refine gate_dst (N := 2) rfl ?_); refine bx_ (cs := #[.string ⟨#[]⟩, .int .i64 0]) (t := 40) ?_; intro g2 hg2 w2 hbox hb; have BK1r := am_ (blk_below BK1.out hb); have BK2 := Aside0.mk hbox; have GE2 := am_ (show w.heap.size ≤ g2 by rw [hg2]; exact below_size HB1.out); have HB2 := am_ (below_step HB1.out hb); clear hbox hb hg2 BK1 HB1))
  have d0 := cz0_ BK1r
  have d1 := cz1_ BK1r
  have a0 : ∀ o, (w2.alloc o).cell? ⟨g1, 0, none⟩ = some (.string a0_0) := fun o => (blk_cell (blk_alloc BK1r.out o) 0).trans rfl
  have a1 : ∀ o, (w2.alloc o).cell? ⟨g1, 1, none⟩ = some (.int .i64 a0_1) := fun o => (blk_cell (blk_alloc BK1r.out o) 1).trans rfl
  have d2 := cz0_ BK2
  have d3 := cz1_ BK2
  have z2 : w2.frozen? ⟨g2, 0, none⟩ = false := fz_ BK2 0
  have z3 : w2.frozen? ⟨g2, 1, none⟩ = false := fz_ BK2 1
  go_region_with (first
   | (go_at_call 127; refine (mr_new _ 9 _ (by first | exact blk_new _ _ | exact blk_drew (blk_new _ _) | exact blk_drewN (blk_new _ _) _)).mono ?_; rintro e w3 ⟨g, bk, cp, rfl, hrp, h4, hne, hge, hb3⟩; have HB3 : Aside0 (Below w2.heap.size w2 w3) := ⟨below_step (by repeat (first | exact Below.refl _ _ | apply below_drew1 | apply pw_below_drewN | apply below_alloc)) hb3⟩; have BK1s := blk_below BK1r.out HB3.out; have e0 : w3.cell? ⟨g1, 0, none⟩ = some (.string a0_0) := (blk_cell BK1s 0).trans rfl; have e1 : w3.cell? ⟨g1, 1, none⟩ = some (.int .i64 a0_1) := (blk_cell BK1s 1).trans rfl; have HG : Aside0 (w2.heap.size ≤ g) := ⟨Nat.le_trans (below_size (w := w2) (by repeat (first | exact Below.refl _ _ | apply below_drew1 | apply pw_below_drewN | apply below_alloc))) hge⟩; have HR := Aside0.mk hrp; have H4 := Aside0.mk h4; have HN := Aside0.mk hne; clear hrp h4 hne hge hb3 BK1s)
   | (go_at_call 128; refine (mr_replace g cp w2.heap.size bk a0_0 _ HR.out H4.out HN.out HG.out HS.out).mono ?_; rintro e w4 ⟨rfl, hb4⟩; have HB4 : Aside0 (Below w2.heap.size w2 w4) := ⟨Below.trans (by repeat (first | exact HB3.out | apply below_drew1 | apply pw_below_drewN)) hb4⟩; have BK1t := blk_below BK1r.out HB4.out; have BK2t := am_ (blk_below BK2.out HB4.out); have e2 : w4.cell? ⟨g1, 1, none⟩ = some (.int .i64 a0_1) := (blk_cell BK1t 1).trans rfl; have k0 := cz0_ BK2t; have k1 := cz1_ BK2t; have q0 : w4.frozen? ⟨g2, 0, none⟩ = false := fz_ BK2t 0; have q1 : w4.frozen? ⟨g2, 1, none⟩ = false := fz_ BK2t 1; clear hb4 BK1t))
  all_goals
   go_wp2
   refine bodyPost_ret (results_cell_row rfl _ _ g2 40 #[.string (mirS a0_0), .int .i64 a0_1] (0, 0) _ rfl (by (with_reducible repeat (first | apply lN_ | apply lD_ | apply lA_)); refine blk_put (cs := #[.string (mirS a0_0), .int .i64 0]) ?_ 1 _ rfl; (with_reducible repeat (first | apply lN_ | apply lD_ | apply lA_)); refine blk_put (cs := #[.string ⟨#[]⟩, .int .i64 0]) ?_ 0 _ rfl; (with_reducible repeat (first | apply lN_ | apply lD_ | apply lA_)); exact BK2t.out) Tryz.underlying40 rfl (by kernel_rfl)) rfl ?_
   exact ⟨rfl, by repeat (first | exact (HB2.out.trans (HB4.out.mono (below_size HB2.out))) | apply pw_below_drewN | apply below_drew1 | refine bS_ ?_ GE2.out)⟩
 ·rw [if_neg hs] at h; cases h

end Go.Proofs.YtmbffgkejknfaaaGreatDoor.PA
