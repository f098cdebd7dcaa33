-- Written by a program of this session (wip/tools/myprint.py). Not trusted: Lean checks it.
import Derived.Test.YtojfncpjgpklhaaGreatDoorCtx
import Derived.Test.YtojfncpjgpklhaaGreatDoorPAx1
import Derived.Test.YtojfncpjgpklhaaGreatDoorPAx2
import Derived.Test.YtojfncpjgpklhaaGreatDoorPAx3
import Derived.Test.YtojfncpjgpklhaaGreatDoorPAx7
namespace Go.Proofs.YtojfncpjgpklhaaGreatDoor.PA
open Go.RowKit Go.Proofs.YtojfncpjgpklhaaGreatDoorW.PrintWords Go.Proofs.YtojfncpjgpklhaaGreatDoorW.PrintLast Go.Proofs.YtojfncpjgpklhaaGreatDoorW.PrintMore
attribute [local go_sem] max2_int min2_int max_two min_two max_three min_three max_four min_four   -- for this text's walks alone
set_option linter.unusedVariables false
set_option linter.unusedSimpArgs false

attribute [local go_sem high] eqA37 eqA38 eqA42
/-! ### impl_Shape_with: function 182 -/

def impl_Shape_with.f (a0_0 : Int) (a0_1 : Int) (a0_2 : Int) (a0_3 : Int) (a0_4 : Int) (a0_5 : Bool) (a1 : Int) (a2 : Int) : Option (Int × Int × Int × Int × Int × Bool) := if a1 = 0 then (if a0_5 = true then ((impl_Shape_maySpread.f a2 a0_1 a0_2 a0_3 a0_4 a0_5).bind fun t366 => (some (a2, a0_1, a0_2, a0_3, a0_4, t366))) else (some (a2, a0_1, a0_2, a0_3, a0_4, false))) else (if a1 = 1 then (if a0_5 = true then ((impl_Shape_maySpread.f a0_0 a2 a0_2 a0_3 a0_4 a0_5).bind fun t367 => (some (a0_0, a2, a0_2, a0_3, a0_4, t367))) else (some (a0_0, a2, a0_2, a0_3, a0_4, false))) else (if a1 = 2 then (if a0_5 = true then ((impl_Shape_maySpread.f a0_0 a0_1 a2 a0_3 a0_4 a0_5).bind fun t368 => (some (a0_0, a0_1, a2, a0_3, a0_4, t368))) else (some (a0_0, a0_1, a2, a0_3, a0_4, false))) else (if a1 = 3 then (if a0_5 = true then ((impl_Shape_maySpread.f a0_0 a0_1 a0_2 a2 a0_4 a0_5).bind fun t369 => (some (a0_0, a0_1, a0_2, a2, a0_4, t369))) else (some (a0_0, a0_1, a0_2, a2, a0_4, false))) else (if a0_5 = true then ((impl_Shape_maySpread.f a0_0 a0_1 a0_2 a0_3 a2 a0_5).bind fun t370 => (some (a0_0, a0_1, a0_2, a0_3, a2, t370))) else (some (a0_0, a0_1, a0_2, a0_3, a2, false))))))

def impl_Shape_with.e (k : Nat) : Refl.Ent G := ⟨182, [(.agg [li, li, li, li, li, .bool]), (.c li), (.c li)], .one (.agg [li, li, li, li, li, .bool]), fun x => impl_Shape_with.f x.1 x.2.1 x.2.2.1 x.2.2.2.1 x.2.2.2.2.1 x.2.2.2.2.2.1 x.2.2.2.2.2.2.1 x.2.2.2.2.2.2.2⟩
theorem impl_Shape_with.ok (k : Nat) : Refl.EntOK Tryz.prog (impl_Shape_with.e k) := Refl.ent_ok 1000000 k GC (fun k => [impl_Shape_maySpread.e k]) (fun k => ⟨impl_Shape_maySpread.ok k, trivial⟩) Tryz.func182 (by kernel_rfl) [] (ps := []) (by kernel_rfl) trivial (fun x => by kernel_rfl)

/-! ### impl_ParseShape: function 159 -/

def impl_ParseShape.l0 : Nat → ByteArray → Int → Int → Int → Int → Int → Int → Bool → Option (Int × Int × Int × Int × Int × Bool × Bool)
  | 0, _, _, _, _, _, _, _, _ => none
  | k + 1, x0, x11, x374000, x374001, x374002, x374003, x374004, x374005 => if x11 < 5 then (if 0 ≤ x11 then (if x11 < (x0.size : Int) then ((impl_Shape_with.f x374000 x374001 x374002 x374003 x374004 x374005 x11 (wrap64 ((wrap64 (bt x0 x11)) - 48))).bind fun bt374 => (impl_ParseShape.l0 k x0 (wrap64 (x11 + 1)) bt374.1 bt374.2.1 bt374.2.2.1 bt374.2.2.2.1 bt374.2.2.2.2.1 bt374.2.2.2.2.2)) else (none)) else (none)) else ((impl_IsShape.f x374000 x374001 x374002 x374003 x374004 ((x0.size : Int) == 6)).bind fun t380 => (if t380 = true then ((impl_Shape_text.f k x374000 x374001 x374002 x374003 x374004 ((x0.size : Int) == 6)).bind fun t381 => (if t381.toList = x0.toList then (some (x374000, x374001, x374002, x374003, x374004, ((x0.size : Int) == 6), true)) else (some (0, 0, 0, 0, 0, false, false)))) else (some (0, 0, 0, 0, 0, false, false))))

def impl_ParseShape.f (k : Nat) (a0 : ByteArray) : Option (Int × Int × Int × Int × Int × Bool × Bool) := (impl_within.f (a0.size : Int) 5 6).bind fun t372 => (if t372 = true then (impl_ParseShape.l0 k a0 0 0 0 0 0 0 false) else (some (0, 0, 0, 0, 0, false, false)))

theorem impl_ParseShape.mono_l : ∀ k, (∀ y0 y1 y2 y3 y4 y5 y6 y7, LeO (impl_ParseShape.l0 k y0 y1 y2 y3 y4 y5 y6 y7) (impl_ParseShape.l0 (k + 1) y0 y1 y2 y3 y4 y5 y6 y7))
  | 0 => fun _ _ _ _ _ _ _ _ r h => by simp [impl_ParseShape.l0] at h
  | k + 1 => by
    have ih0 := impl_ParseShape.mono_l k
    · intro y0 y1 y2 y3 y4 y5 y6 y7
      unfold impl_ParseShape.l0
      repeat' first
      | (with_reducible exact ih0 _ _ _ _ _ _ _ _)
      | (with_reducible exact impl_Shape_text.mono _ _ _ _ _ _ _)
      | (with_reducible exact LeO.refl _)
      | (with_reducible exact LeO.none _)
      | (with_reducible refine LeO.ite ?_ ?_)
      | (with_reducible refine LeO.bind ?_ (fun _ => ?_))
      | exact ih0 _ _ _ _ _ _ _ _
      | exact impl_Shape_text.mono _ _ _ _ _ _ _
      | exact LeO.none _
      | refine LeO.ite ?_ ?_
      | refine LeO.bind ?_ (fun _ => ?_)

theorem impl_ParseShape.mono : ∀ a0 k, LeO (impl_ParseShape.f k a0) (impl_ParseShape.f (k + 1) a0) := by
  intro a0 k
  have ih0 := impl_ParseShape.mono_l k
  unfold impl_ParseShape.f
  repeat' first
      | (with_reducible exact ih0 _ _ _ _ _ _ _ _)
      | (with_reducible exact impl_Shape_text.mono _ _ _ _ _ _ _)
      | (with_reducible exact LeO.refl _)
      | (with_reducible exact LeO.none _)
      | (with_reducible refine LeO.ite ?_ ?_)
      | (with_reducible refine LeO.bind ?_ (fun _ => ?_))
      | exact ih0 _ _ _ _ _ _ _ _
      | exact impl_Shape_text.mono _ _ _ _ _ _ _
      | exact LeO.none _
      | refine LeO.ite ?_ ?_
      | refine LeO.bind ?_ (fun _ => ?_)

def impl_ParseShape.e (k : Nat) : Refl.Ent G := ⟨159, [(.c .str)], .tup [(.agg [li, li, li, li, li, .bool]), (.c .bool)], fun x => impl_ParseShape.f k x⟩
def impl_ParseShape.pl0 : Refl.Pn G (Refl.PT G (impl_ParseShape.e 0).ol) := ⟨true, 0, ⟨[(0, .v (.c .str)), (11, .v (.c li)), (4, .box 4 0), (2, .box 2 0), (3, .k (Value.bool false))], [(4, 37, gL6), (2, 37, gL2)]⟩, fun k x => impl_ParseShape.l0 k x.1 x.2.1 x.2.2.1 x.2.2.2.1 x.2.2.2.2.1 x.2.2.2.2.2.1 x.2.2.2.2.2.2.1 x.2.2.2.2.2.2.2⟩
theorem impl_ParseShape.ok (k : Nat) : Refl.EntOK Tryz.prog (impl_ParseShape.e k) := Refl.ent_ok 1000000 k GC (fun k => [impl_within.e k, impl_Shape_with.e k, impl_IsShape.e k, impl_Shape_text.e k]) (fun k => ⟨impl_within.ok k, impl_Shape_with.ok k, impl_IsShape.ok k, impl_Shape_text.ok k, trivial⟩) Tryz.func159 (by kernel_rfl) [impl_ParseShape.pl0] (ps := [impl_ParseShape.pl0]) (by kernel_rfl) ⟨⟨fun x => by kernel_rfl, fun k x => by kernel_rfl⟩, trivial⟩ (fun x => by kernel_rfl)

/-! ### impl_PlainShapes: function 113 -/

def impl_PlainShapes.l0 : Nat → List (S37) → List ByteArray → Int → Int → Option ((List (S37)))
  | 0, _, _, _, _ => none
  | k + 1, x1, x6, x7, x8 => if x8 < x7 then (if 0 ≤ x8 then (if x8 < (x6.length : Int) then ((impl_ParseShape.f k (rdOf ByteArray.empty x6 x8)).bind fun bt386 => (if x1.length < 2932031007402 then (impl_PlainShapes.l0 k (x1 ++ [(⟨bt386.1, bt386.2.1, bt386.2.2.1, bt386.2.2.2.1, bt386.2.2.2.2.1, bt386.2.2.2.2.2.1⟩ : S37)]) x6 x7 (wrap64 (x8 + 1))) else (none))) else (none)) else (none)) else (some x1)

def impl_PlainShapes.f (k : Nat)  : Option ((List (S37))) := (some (([(⟨#[48, 48, 48, 48, 48]⟩ : ByteArray), (⟨#[48, 48, 48, 48, 48, 115]⟩ : ByteArray), (⟨#[50, 50, 50, 50, 50]⟩ : ByteArray), (⟨#[49, 48, 48, 48, 48]⟩ : ByteArray), (⟨#[49, 48, 50, 50, 50]⟩ : ByteArray), (⟨#[48, 48, 50, 50, 50]⟩ : ByteArray)] : List ByteArray) : List ByteArray)).bind fun y382 => (impl_PlainShapes.l0 k ([] : List (S37)) y382 (y382.length : Int) 0)

theorem impl_PlainShapes.mono_l : ∀ k, (∀ y0 y1 y2 y3, LeO (impl_PlainShapes.l0 k y0 y1 y2 y3) (impl_PlainShapes.l0 (k + 1) y0 y1 y2 y3))
  | 0 => fun _ _ _ _ r h => by simp [impl_PlainShapes.l0] at h
  | k + 1 => by
    have ih0 := impl_PlainShapes.mono_l k
    · intro y0 y1 y2 y3
      unfold impl_PlainShapes.l0
      repeat' first
      | (with_reducible exact ih0 _ _ _ _)
      | (with_reducible exact impl_ParseShape.mono _ _)
      | (with_reducible exact LeO.refl _)
      | (with_reducible exact LeO.none _)
      | (with_reducible refine LeO.ite ?_ ?_)
      | (with_reducible refine LeO.bind ?_ (fun _ => ?_))
      | exact ih0 _ _ _ _
      | exact impl_ParseShape.mono _ _
      | exact LeO.none _
      | refine LeO.ite ?_ ?_
      | refine LeO.bind ?_ (fun _ => ?_)

theorem impl_PlainShapes.mono : ∀ k, LeO (impl_PlainShapes.f k ) (impl_PlainShapes.f (k + 1) ) := by
  intro  k
  have ih0 := impl_PlainShapes.mono_l k
  unfold impl_PlainShapes.f
  repeat' first
      | (with_reducible exact ih0 _ _ _ _)
      | (with_reducible exact impl_ParseShape.mono _ _)
      | (with_reducible exact LeO.refl _)
      | (with_reducible exact LeO.none _)
      | (with_reducible refine LeO.ite ?_ ?_)
      | (with_reducible refine LeO.bind ?_ (fun _ => ?_))
      | exact ih0 _ _ _ _
      | exact impl_ParseShape.mono _ _
      | exact LeO.none _
      | refine LeO.ite ?_ ?_
      | refine LeO.bind ?_ (fun _ => ?_)

def impl_PlainShapes.e (k : Nat) : Refl.Ent G := ⟨113, [], .one (.c (.row 37 true)), fun _ => impl_PlainShapes.f k ⟩
def impl_PlainShapes.pl0 : Refl.Pn G (Refl.PT G (impl_PlainShapes.e 0).ol) := ⟨true, 0, ⟨[(1, .v (.c (.row 37 true))), (6, .v (.c (.row 9 false))), (7, .v (.c li)), (8, .v (.c li))], []⟩, fun k x => impl_PlainShapes.l0 k x.1 x.2.1 x.2.2.1 x.2.2.2⟩
theorem impl_PlainShapes.ok (k : Nat) : Refl.EntOK Tryz.prog (impl_PlainShapes.e k) := Refl.ent_ok 1000000 k GC (fun k => [impl_ParseShape.e k]) (fun k => ⟨impl_ParseShape.ok k, trivial⟩) Tryz.func113 (by kernel_rfl) [impl_PlainShapes.pl0] (ps := [impl_PlainShapes.pl0]) (by kernel_rfl) ⟨⟨fun x => by kernel_rfl, fun k x => by kernel_rfl⟩, trivial⟩ (fun x => by kernel_rfl)

/-! ### impl_Orient_mirrored: function 114 -/

def orSw (d : Int) : Int := if d = 2 then 3 else if d = 3 then 2 else d
def impl_Orient_mirrored.f (a0_0 a0_1 : Int) : Option (Int × Int) := some (orSw a0_0, orSw a0_1)
set_option maxHeartbeats 4000000 in
set_option maxRecDepth 100000 in
theorem orSw_calls (d : Int) (w : World) : Calls Tryz.prog 160 #[.int .i64 d] w fun e w' => e = .returned (.int .i64 (orSw d)) ∧ Drawn0 w w' := by
  have h : (d = 2) ∨ (d = 3) ∨ (¬ d = 2 ∧ ¬ d = 3) := by omega
  rcases h with rfl | rfl | ⟨h2, h3⟩
  · go_enter Tryz.func160, Tryz.ntmps160
    go_wp2
    go_ret
    exact ⟨rfl, by repeat (first | exact Drawn0.refl _ | apply Drawn0.step)⟩
  · go_enter Tryz.func160, Tryz.ntmps160
    go_wp2
    go_ret
    exact ⟨rfl, by repeat (first | exact Drawn0.refl _ | apply Drawn0.step)⟩
  · have e : orSw d = d := by unfold orSw; rw [if_neg h2, if_neg h3]
    rw [e]
    have c2 : (d == 2) = false := by simpa using h2
    have c3 : (d == 3) = false := by simpa using h3
    clear e h2 h3
    go_enter Tryz.func160, Tryz.ntmps160
    go_wp2
    go_ret
    exact ⟨rfl, by repeat (first | exact Drawn0.refl _ | apply Drawn0.step)⟩
set_option maxHeartbeats 4000000 in
set_option maxRecDepth 100000 in
theorem impl_Orient_mirrored.calls (a0_0 a0_1 r1 r2 : Int) (w : World) (h : impl_Orient_mirrored.f a0_0 a0_1 = some (r1, r2)) :
    Calls Tryz.prog 114 #[.agg #[.int .i64 a0_0, .int .i64 a0_1]] w fun e w' => e = .returned (.agg #[.int .i64 r1, .int .i64 r2]) ∧ Below w.heap.size w w' := by
  unfold impl_Orient_mirrored.f at h
  simp only [Option.some.injEq, Prod.mk.injEq] at h
  obtain ⟨rfl, rfl⟩ := h
  have HB := Aside0.mk (Below.refl w.heap.size w)
  have HC0 := Aside0.mk (fun W => orSw_calls a0_0 W)
  have HC1 := Aside0.mk (fun W => orSw_calls a0_1 W)
  generalize orSw a0_0 = s0 at HC0
  generalize orSw a0_1 = s1 at HC1
  go_enter Tryz.func114, Tryz.ntmps114
  go_wp2_with (first
    | ((with_reducible refine gate_dst (N := 1) rfl ?_); refine box_event ?hg (N := 1) ?hd (cs := #[.int .i64 a0_0, .int .i64 a0_1]) (t := 38) ?hr ?_; (case hd => rfl); (case hg => rfl); (case hr => first | (go_simp; done) | (go_simp; rfl)); intro g1 hg1 w1 hbox hb; have BK1 := Aside0.mk hbox; have HB1 := Aside0.mk hb; clear hbox hb hg1 HB)
    | ((with_reducible refine gate_dst (N := 2) rfl ?_); refine box_event ?hg (N := 2) ?hd (cs := #[.int .i64 0, .int .i64 0]) (t := 38) ?hr ?_; (case hd => rfl); (case hg => rfl); (case hr => first | (go_simp; done) | (go_simp; rfl)); intro g2 hg2 w2 hbox hb; have BK1r := Aside0.mk (blk_below BK1.out hb); have BK2 := Aside0.mk hbox; have GE2 := Aside0.mk (show w.heap.size ≤ g2 by rw [hg2]; exact below_size HB1.out); have HB2 := Aside0.mk (below_step HB1.out hb); clear hbox hb hg2 BK1 HB1))
  have d0 : w2.cell? ⟨g1, 0, none⟩ = some (.int .i64 a0_0) := (blk_cell BK1r.out 0).trans rfl
  have d1 : w2.cell? ⟨g1, 1, none⟩ = some (.int .i64 a0_1) := (blk_cell BK1r.out 1).trans rfl
  have d2 : w2.cell? ⟨g2, 0, none⟩ = some (.int .i64 0) := (blk_cell BK2.out 0).trans rfl
  have d3 : w2.cell? ⟨g2, 1, none⟩ = some (.int .i64 0) := (blk_cell BK2.out 1).trans rfl
  have z2 : w2.frozen? ⟨g2, 0, none⟩ = false := blk_frozen BK2.out 0
  have z3 : w2.frozen? ⟨g2, 1, none⟩ = false := blk_frozen BK2.out 1
  go_region_with (first
    | (go_at_call 160; (with_reducible refine (HC0.out _).mono ?_); rintro e wq ⟨rfl, ⟨nd, rfl⟩⟩)
    | (go_at_call 160; (with_reducible refine (HC1.out _).mono ?_); rintro e wq ⟨rfl, ⟨nd, rfl⟩⟩))
  all_goals
    go_wp2
    refine bodyPost_ret (results_cell_row rfl _ _ g2 38 #[.int .i64 s0, .int .i64 s1] (0, 0) _ rfl (by (with_reducible repeat (first | apply lN_ | apply lD_ | apply lA_)); refine blk_put (cs := #[.int .i64 s0, .int .i64 0]) ?_ 1 _ rfl; (with_reducible repeat (first | apply lN_ | apply lD_ | apply lA_)); refine blk_put (cs := #[.int .i64 0, .int .i64 0]) ?_ 0 _ rfl; (with_reducible repeat (first | apply lN_ | apply lD_ | apply lA_)); exact BK2.out) Tryz.underlying38 rfl (by kernel_rfl)) rfl ?_
    exact ⟨rfl, by repeat (first | exact HB2.out | apply pw_below_drewN | apply below_drew1 | refine bS_ ?_ GE2.out)⟩

def impl_Orient_mirrored.e (k : Nat) : Refl.Ent G := ⟨114, [(.agg [li, li])], .one (.agg [li, li]), fun x => impl_Orient_mirrored.f x.1 x.2⟩
theorem impl_Orient_mirrored.ok (k : Nat) : Refl.EntOK Tryz.prog (impl_Orient_mirrored.e k) := Refl.entOK_hand Tryz.func114 (by kernel_rfl) (fun x => by kernel_rfl) (fun y => ⟨by kernel_rfl, by kernel_rfl, by kernel_rfl, by kernel_rfl⟩) (fun x y h w => (impl_Orient_mirrored.calls x.1 x.2 y.1 y.2 w h).mono fun e w' hh => ⟨hh.1, hh.2⟩)

/-! ### impl_Move_mirrored: function 115 -/

def impl_Move_mirrored.f (a0_0 : ByteArray) (a0_1 : Int) : Option (ByteArray × Int) := if a0_0.size ≤ 1000000 then some (mirS a0_0, a0_1) else none
set_option maxHeartbeats 4000000 in
set_option maxRecDepth 100000 in
theorem impl_Move_mirrored.calls (a0_0 : ByteArray) (a0_1 : Int) (r1 : ByteArray) (r2 : Int) (w : World) (h : impl_Move_mirrored.f a0_0 a0_1 = some (r1, r2)) :
    Calls Tryz.prog 115 #[.agg #[.string a0_0, .int .i64 a0_1]] w fun e w' => e = .returned (.agg #[.string r1, .int .i64 r2]) ∧ Below w.heap.size w w' := by
  unfold impl_Move_mirrored.f at h
  by_cases hs : a0_0.size ≤ 1000000
  · rw [if_pos hs] at h
    simp only [Option.some.injEq, Prod.mk.injEq] at h
    obtain ⟨rfl, rfl⟩ := h
    have HS := Aside0.mk hs
    have HB := Aside0.mk (Below.refl w.heap.size w)
    clear hs
    go_enter Tryz.func115, Tryz.ntmps115
    go_wp2_with (first
      | ((with_reducible refine gate_dst (N := 1) rfl ?_); refine box_event ?hg (N := 1) ?hd (cs := #[.string a0_0, .int .i64 a0_1]) (t := 40) ?hr ?_; (case hd => rfl); (case hg => rfl); (case hr => first | (go_simp; done) | (go_simp; rfl)); intro g1 hg1 w1 hbox hb; have BK1 := Aside0.mk hbox; have HB1 := Aside0.mk hb; clear hbox hb hg1 HB)
      | ((with_reducible refine gate_dst (N := 2) rfl ?_); refine box_event ?hg (N := 2) ?hd (cs := #[.string ⟨#[]⟩, .int .i64 0]) (t := 40) ?hr ?_; (case hd => rfl); (case hg => rfl); (case hr => first | (go_simp; done) | (go_simp; rfl)); intro g2 hg2 w2 hbox hb; have BK1r := Aside0.mk (blk_below BK1.out hb); have BK2 := Aside0.mk hbox; have GE2 := Aside0.mk (show w.heap.size ≤ g2 by rw [hg2]; exact below_size HB1.out); have HB2 := Aside0.mk (below_step HB1.out hb); clear hbox hb hg2 BK1 HB1))
    have d0 : w2.cell? ⟨g1, 0, none⟩ = some (.string a0_0) := (blk_cell BK1r.out 0).trans rfl
    have d1 : w2.cell? ⟨g1, 1, none⟩ = some (.int .i64 a0_1) := (blk_cell BK1r.out 1).trans rfl
    have a0 : ∀ o, (w2.alloc o).cell? ⟨g1, 0, none⟩ = some (.string a0_0) := fun o => (blk_cell (blk_alloc BK1r.out o) 0).trans rfl
    have a1 : ∀ o, (w2.alloc o).cell? ⟨g1, 1, none⟩ = some (.int .i64 a0_1) := fun o => (blk_cell (blk_alloc BK1r.out o) 1).trans rfl
    have d2 : w2.cell? ⟨g2, 0, none⟩ = some (.string ⟨#[]⟩) := (blk_cell BK2.out 0).trans rfl
    have d3 : w2.cell? ⟨g2, 1, none⟩ = some (.int .i64 0) := (blk_cell BK2.out 1).trans rfl
    have z2 : w2.frozen? ⟨g2, 0, none⟩ = false := blk_frozen BK2.out 0
    have z3 : w2.frozen? ⟨g2, 1, none⟩ = false := blk_frozen BK2.out 1
    go_region_with (first
      | (go_at_call 161; refine (mr_new _ 9 _ (by first | exact blk_new _ _ | exact blk_drew (blk_new _ _) | exact blk_drewN (blk_new _ _) _)).mono ?_; rintro e w3 ⟨g, bk, cp, rfl, hrp, h4, hne, hge, hb3⟩; have HB3 : Aside0 (Below w2.heap.size w2 w3) := ⟨below_step (by repeat (first | exact Below.refl _ _ | apply below_drew1 | apply pw_below_drewN | apply below_alloc)) hb3⟩; have BK1s := blk_below BK1r.out HB3.out; have e0 : w3.cell? ⟨g1, 0, none⟩ = some (.string a0_0) := (blk_cell BK1s 0).trans rfl; have e1 : w3.cell? ⟨g1, 1, none⟩ = some (.int .i64 a0_1) := (blk_cell BK1s 1).trans rfl; have HG : Aside0 (w2.heap.size ≤ g) := ⟨Nat.le_trans (below_size (w := w2) (by repeat (first | exact Below.refl _ _ | apply below_drew1 | apply pw_below_drewN | apply below_alloc))) hge⟩; have HR := Aside0.mk hrp; have H4 := Aside0.mk h4; have HN := Aside0.mk hne; clear hrp h4 hne hge hb3 BK1s)
      | (go_at_call 162; refine (mr_replace g cp w2.heap.size bk a0_0 _ HR.out H4.out HN.out HG.out HS.out).mono ?_; rintro e w4 ⟨rfl, hb4⟩; have HB4 : Aside0 (Below w2.heap.size w2 w4) := ⟨Below.trans (by repeat (first | exact HB3.out | apply below_drew1 | apply pw_below_drewN)) hb4⟩; have BK1t := blk_below BK1r.out HB4.out; have BK2t := Aside0.mk (blk_below BK2.out HB4.out); have e2 : w4.cell? ⟨g1, 1, none⟩ = some (.int .i64 a0_1) := (blk_cell BK1t 1).trans rfl; have k0 : w4.cell? ⟨g2, 0, none⟩ = some (.string ⟨#[]⟩) := (blk_cell BK2t.out 0).trans rfl; have k1 : w4.cell? ⟨g2, 1, none⟩ = some (.int .i64 0) := (blk_cell BK2t.out 1).trans rfl; have q0 : w4.frozen? ⟨g2, 0, none⟩ = false := blk_frozen BK2t.out 0; have q1 : w4.frozen? ⟨g2, 1, none⟩ = false := blk_frozen BK2t.out 1; clear hb4 BK1t))
    all_goals
      go_wp2
      refine bodyPost_ret (results_cell_row rfl _ _ g2 40 #[.string (mirS a0_0), .int .i64 a0_1] (0, 0) _ rfl (by (with_reducible repeat (first | apply lN_ | apply lD_ | apply lA_)); refine blk_put (cs := #[.string (mirS a0_0), .int .i64 0]) ?_ 1 _ rfl; (with_reducible repeat (first | apply lN_ | apply lD_ | apply lA_)); refine blk_put (cs := #[.string ⟨#[]⟩, .int .i64 0]) ?_ 0 _ rfl; (with_reducible repeat (first | apply lN_ | apply lD_ | apply lA_)); exact BK2t.out) Tryz.underlying40 rfl (by kernel_rfl)) rfl ?_
      exact ⟨rfl, by repeat (first | exact (HB2.out.trans (HB4.out.mono (below_size HB2.out))) | apply pw_below_drewN | apply below_drew1 | refine bS_ ?_ GE2.out)⟩
  · rw [if_neg hs] at h; cases h

def impl_Move_mirrored.e (k : Nat) : Refl.Ent G := ⟨115, [(.agg [.str, li])], .one (.agg [.str, li]), fun x => impl_Move_mirrored.f x.1 x.2⟩
theorem impl_Move_mirrored.ok (k : Nat) : Refl.EntOK Tryz.prog (impl_Move_mirrored.e k) := Refl.entOK_hand Tryz.func115 (by kernel_rfl) (fun x => by kernel_rfl) (fun y => ⟨by kernel_rfl, by kernel_rfl, by kernel_rfl, by kernel_rfl⟩) (fun x y h w => (impl_Move_mirrored.calls x.1 x.2 y.1 y.2 w h).mono fun e w' hh => ⟨hh.1, hh.2⟩)

/-! ### impl_keepRules: function 71 -/

def impl_keepRules.j0 : Nat → Bool → Int → Int → Int → Int → Int → Bool → Int → Int → Int → Int → Bool → ByteArray → Int → Int → Int → Int → Int → Int → Bool → Int → Int → Int → Int → Bool → ByteArray → Int → Option (Bool)
  | 0, _, _, _, _, _, _, _, _, _, _, _, _, _, _, _, _, _, _, _, _, _, _, _, _, _, _, _ => none
  | k + 1, x5, x398000, x398001, x398002, x398003, x398004, x398005, x398006, x398007, x398008, x398009, x398010, x398011, x398012, x399000, x399001, x399002, x399003, x399004, x399005, x399006, x399007, x399008, x399009, x399010, x399011, x399012 => (impl_Move_all.f x399011 x399012).bind fun t406 => ((impl_Move_all.f x398011 x398012).bind fun t407 => (if t406.toList = t407.toList then ((impl_Hand_moves.f x398000 x398001 x398002 x398003 x398004 x398005 x398006 x398007 x398008 x398009 x398010 x398011 x398012).bind fun t408 => (if t408 = true then (if (x398000 == x399000 && (x398001 == x399001 && (x398002 == x399002 && (x398003 == x399003 && (x398004 == x399004 && (x398005 == x399005)))))) = true then (if x5 = true then (some true) else (some false)) else (some false)) else (some false))) else ((impl_Move_all.f x399011 x399012).bind fun t409 => ((impl_Move_mirrored.f x398011 x398012).bind fun bt410 => ((impl_Move_all.f bt410.1 bt410.2).bind fun t412 => ((impl_Hand_moves.f x398000 x398001 x398002 x398003 x398004 x398005 x398006 x398007 x398008 x398009 x398010 x398011 x398012).bind fun t413 => (if t413 = true then (if (x398000 == x399000 && (x398001 == x399001 && (x398002 == x399002 && (x398003 == x399003 && (x398004 == x399004 && (x398005 == x399005)))))) = true then (if x5 = true then (some (t409.toList == t412.toList)) else (some false)) else (some false)) else (some false))))))))

def impl_keepRules.f (k : Nat) (a0_0 : Int) (a0_1 : Int) (a0_2 : Int) (a0_3 : Int) (a0_4 : Int) (a0_5 : Bool) (a0_6 : Int) (a0_7 : Int) (a0_8 : Int) (a0_9 : Int) (a0_10 : Bool) (a0_11 : ByteArray) (a0_12 : Int) (a1_0 : Int) (a1_1 : Int) (a1_2 : Int) (a1_3 : Int) (a1_4 : Int) (a1_5 : Bool) (a1_6 : Int) (a1_7 : Int) (a1_8 : Int) (a1_9 : Int) (a1_10 : Bool) (a1_11 : ByteArray) (a1_12 : Int) : Option (Bool) := (impl_Hand_moves.f a1_0 a1_1 a1_2 a1_3 a1_4 a1_5 a1_6 a1_7 a1_8 a1_9 a1_10 a1_11 a1_12).bind fun t399 => (if t399 = true then (if (a1_6 == a0_6 && (a1_7 == a0_7)) = true then (impl_keepRules.j0 k true a0_0 a0_1 a0_2 a0_3 a0_4 a0_5 a0_6 a0_7 a0_8 a0_9 a0_10 a0_11 a0_12 a1_0 a1_1 a1_2 a1_3 a1_4 a1_5 a1_6 a1_7 a1_8 a1_9 a1_10 a1_11 a1_12) else ((impl_Orient_mirrored.f a0_6 a0_7).bind fun bt404 => (impl_keepRules.j0 k (a1_6 == bt404.1 && (a1_7 == bt404.2)) a0_0 a0_1 a0_2 a0_3 a0_4 a0_5 a0_6 a0_7 a0_8 a0_9 a0_10 a0_11 a0_12 a1_0 a1_1 a1_2 a1_3 a1_4 a1_5 a1_6 a1_7 a1_8 a1_9 a1_10 a1_11 a1_12))) else (if (a1_0 == a0_0 && (a1_1 == a0_1 && (a1_2 == a0_2 && (a1_3 == a0_3 && (a1_4 == a0_4 && (a1_5 == a0_5)))))) = true then (some true) else ((impl_PlainShapes.f k).bind fun t400 => ((impl_Shape_112.f k t400 a1_0 a1_1 a1_2 a1_3 a1_4 a1_5).bind fun t403 => (some t403)))))

theorem impl_keepRules.mono_l : ∀ k, (∀ y0 y1 y2 y3 y4 y5 y6 y7 y8 y9 y10 y11 y12 y13 y14 y15 y16 y17 y18 y19 y20 y21 y22 y23 y24 y25 y26, LeO (impl_keepRules.j0 k y0 y1 y2 y3 y4 y5 y6 y7 y8 y9 y10 y11 y12 y13 y14 y15 y16 y17 y18 y19 y20 y21 y22 y23 y24 y25 y26) (impl_keepRules.j0 (k + 1) y0 y1 y2 y3 y4 y5 y6 y7 y8 y9 y10 y11 y12 y13 y14 y15 y16 y17 y18 y19 y20 y21 y22 y23 y24 y25 y26))
  | 0 => fun _ _ _ _ _ _ _ _ _ _ _ _ _ _ _ _ _ _ _ _ _ _ _ _ _ _ _ r h => by simp [impl_keepRules.j0] at h
  | k + 1 => by
    have ih0 := impl_keepRules.mono_l k
    · intro y0 y1 y2 y3 y4 y5 y6 y7 y8 y9 y10 y11 y12 y13 y14 y15 y16 y17 y18 y19 y20 y21 y22 y23 y24 y25 y26
      unfold impl_keepRules.j0
      repeat' first
      | (with_reducible exact ih0 _ _ _ _ _ _ _ _ _ _ _ _ _ _ _ _ _ _ _ _ _ _ _ _ _ _ _)
      | (with_reducible exact impl_PlainShapes.mono _)
      | (with_reducible exact impl_Shape_112.mono _ _ _ _ _ _ _ _)
      | (with_reducible exact LeO.refl _)
      | (with_reducible exact LeO.none _)
      | (with_reducible refine LeO.ite ?_ ?_)
      | (with_reducible refine LeO.bind ?_ (fun _ => ?_))
      | exact ih0 _ _ _ _ _ _ _ _ _ _ _ _ _ _ _ _ _ _ _ _ _ _ _ _ _ _ _
      | exact impl_PlainShapes.mono _
      | exact impl_Shape_112.mono _ _ _ _ _ _ _ _
      | exact LeO.none _
      | refine LeO.ite ?_ ?_
      | refine LeO.bind ?_ (fun _ => ?_)

theorem impl_keepRules.mono : ∀ a0 a1 a2 a3 a4 a5 a6 a7 a8 a9 a10 a11 a12 a13 a14 a15 a16 a17 a18 a19 a20 a21 a22 a23 a24 a25 k, LeO (impl_keepRules.f k a0 a1 a2 a3 a4 a5 a6 a7 a8 a9 a10 a11 a12 a13 a14 a15 a16 a17 a18 a19 a20 a21 a22 a23 a24 a25) (impl_keepRules.f (k + 1) a0 a1 a2 a3 a4 a5 a6 a7 a8 a9 a10 a11 a12 a13 a14 a15 a16 a17 a18 a19 a20 a21 a22 a23 a24 a25) := by
  intro a0 a1 a2 a3 a4 a5 a6 a7 a8 a9 a10 a11 a12 a13 a14 a15 a16 a17 a18 a19 a20 a21 a22 a23 a24 a25 k
  have ih0 := impl_keepRules.mono_l k
  unfold impl_keepRules.f
  repeat' first
      | (with_reducible exact ih0 _ _ _ _ _ _ _ _ _ _ _ _ _ _ _ _ _ _ _ _ _ _ _ _ _ _ _)
      | (with_reducible exact impl_PlainShapes.mono _)
      | (with_reducible exact impl_Shape_112.mono _ _ _ _ _ _ _ _)
      | (with_reducible exact LeO.refl _)
      | (with_reducible exact LeO.none _)
      | (with_reducible refine LeO.ite ?_ ?_)
      | (with_reducible refine LeO.bind ?_ (fun _ => ?_))
      | exact ih0 _ _ _ _ _ _ _ _ _ _ _ _ _ _ _ _ _ _ _ _ _ _ _ _ _ _ _
      | exact impl_PlainShapes.mono _
      | exact impl_Shape_112.mono _ _ _ _ _ _ _ _
      | exact LeO.none _
      | refine LeO.ite ?_ ?_
      | refine LeO.bind ?_ (fun _ => ?_)

def impl_keepRules.e (k : Nat) : Refl.Ent G := ⟨71, [(.agg gL0), (.agg gL0)], .one (.c .bool), fun x => impl_keepRules.f k x.1 x.2.1 x.2.2.1 x.2.2.2.1 x.2.2.2.2.1 x.2.2.2.2.2.1 x.2.2.2.2.2.2.1 x.2.2.2.2.2.2.2.1 x.2.2.2.2.2.2.2.2.1 x.2.2.2.2.2.2.2.2.2.1 x.2.2.2.2.2.2.2.2.2.2.1 x.2.2.2.2.2.2.2.2.2.2.2.1 x.2.2.2.2.2.2.2.2.2.2.2.2.1 x.2.2.2.2.2.2.2.2.2.2.2.2.2.1 x.2.2.2.2.2.2.2.2.2.2.2.2.2.2.1 x.2.2.2.2.2.2.2.2.2.2.2.2.2.2.2.1 x.2.2.2.2.2.2.2.2.2.2.2.2.2.2.2.2.1 x.2.2.2.2.2.2.2.2.2.2.2.2.2.2.2.2.2.1 x.2.2.2.2.2.2.2.2.2.2.2.2.2.2.2.2.2.2.1 x.2.2.2.2.2.2.2.2.2.2.2.2.2.2.2.2.2.2.2.1 x.2.2.2.2.2.2.2.2.2.2.2.2.2.2.2.2.2.2.2.2.1 x.2.2.2.2.2.2.2.2.2.2.2.2.2.2.2.2.2.2.2.2.2.1 x.2.2.2.2.2.2.2.2.2.2.2.2.2.2.2.2.2.2.2.2.2.2.1 x.2.2.2.2.2.2.2.2.2.2.2.2.2.2.2.2.2.2.2.2.2.2.2.1 x.2.2.2.2.2.2.2.2.2.2.2.2.2.2.2.2.2.2.2.2.2.2.2.2.1 x.2.2.2.2.2.2.2.2.2.2.2.2.2.2.2.2.2.2.2.2.2.2.2.2.2⟩
def impl_keepRules.pj0 : Refl.Pn G (Refl.PT G (impl_keepRules.e 0).ol) := ⟨false, 1000003, ⟨[(5, .v (.c .bool)), (2, .box 2 0), (3, .box 3 0), (4, .k (Value.bool false))], [(2, 42, gL5), (3, 42, gL5)]⟩, fun k x => impl_keepRules.j0 k x.1 x.2.1 x.2.2.1 x.2.2.2.1 x.2.2.2.2.1 x.2.2.2.2.2.1 x.2.2.2.2.2.2.1 x.2.2.2.2.2.2.2.1 x.2.2.2.2.2.2.2.2.1 x.2.2.2.2.2.2.2.2.2.1 x.2.2.2.2.2.2.2.2.2.2.1 x.2.2.2.2.2.2.2.2.2.2.2.1 x.2.2.2.2.2.2.2.2.2.2.2.2.1 x.2.2.2.2.2.2.2.2.2.2.2.2.2.1 x.2.2.2.2.2.2.2.2.2.2.2.2.2.2.1 x.2.2.2.2.2.2.2.2.2.2.2.2.2.2.2.1 x.2.2.2.2.2.2.2.2.2.2.2.2.2.2.2.2.1 x.2.2.2.2.2.2.2.2.2.2.2.2.2.2.2.2.2.1 x.2.2.2.2.2.2.2.2.2.2.2.2.2.2.2.2.2.2.1 x.2.2.2.2.2.2.2.2.2.2.2.2.2.2.2.2.2.2.2.1 x.2.2.2.2.2.2.2.2.2.2.2.2.2.2.2.2.2.2.2.2.1 x.2.2.2.2.2.2.2.2.2.2.2.2.2.2.2.2.2.2.2.2.2.1 x.2.2.2.2.2.2.2.2.2.2.2.2.2.2.2.2.2.2.2.2.2.2.1 x.2.2.2.2.2.2.2.2.2.2.2.2.2.2.2.2.2.2.2.2.2.2.2.1 x.2.2.2.2.2.2.2.2.2.2.2.2.2.2.2.2.2.2.2.2.2.2.2.2.1 x.2.2.2.2.2.2.2.2.2.2.2.2.2.2.2.2.2.2.2.2.2.2.2.2.2.1 x.2.2.2.2.2.2.2.2.2.2.2.2.2.2.2.2.2.2.2.2.2.2.2.2.2.2⟩
theorem impl_keepRules.ok (k : Nat) : Refl.EntOK Tryz.prog (impl_keepRules.e k) := Refl.ent_ok 1000000 k GC (fun k => [impl_Hand_moves.e k, impl_PlainShapes.e k, impl_Shape_112.e k, impl_Orient_mirrored.e k, impl_Move_all.e k, impl_Move_mirrored.e k]) (fun k => ⟨impl_Hand_moves.ok k, impl_PlainShapes.ok k, impl_Shape_112.ok k, impl_Orient_mirrored.ok k, impl_Move_all.ok k, impl_Move_mirrored.ok k, trivial⟩) Tryz.func71 (by kernel_rfl) [impl_keepRules.pj0] (ps := [impl_keepRules.pj0]) (by kernel_rfl) ⟨⟨fun x => by kernel_rfl, fun k x => by kernel_rfl⟩, trivial⟩ (fun x => by kernel_rfl)

/-! ### impl_IsSign: function 37 -/

def impl_IsSign.f (k : Nat) (a0_0 : Int) (a0_1 : Int) (a0_2 : Int) (a0_3 : Int) (a0_4 : Int) (a0_5 : Bool) (a0_6 : Int) (a0_7 : Int) (a0_8 : Int) (a0_9 : Int) (a0_10 : Bool) (a0_11 : ByteArray) (a0_12 : Int) (a0_13 : Bool) (a0_14 : Int) (a0_15 : Int) (a0_16 : Int) (a0_17 : Int) (a0_18 : Int) (a0_19 : Bool) (a0_20 : Int) (a0_21 : Int) (a0_22 : Int) (a0_23 : Int) (a0_24 : Bool) (a0_25 : ByteArray) (a0_26 : Int) : Option (Bool) := (impl_IsHand.f k a0_0 a0_1 a0_2 a0_3 a0_4 a0_5 a0_6 a0_7 a0_8 a0_9 a0_10 a0_11 a0_12).bind fun t415 => (if t415 = true then (if a0_13 = true then ((impl_IsHand.f k a0_14 a0_15 a0_16 a0_17 a0_18 a0_19 a0_20 a0_21 a0_22 a0_23 a0_24 a0_25 a0_26).bind fun t416 => (if t416 = true then ((impl_keepRules.f k a0_0 a0_1 a0_2 a0_3 a0_4 a0_5 a0_6 a0_7 a0_8 a0_9 a0_10 a0_11 a0_12 a0_14 a0_15 a0_16 a0_17 a0_18 a0_19 a0_20 a0_21 a0_22 a0_23 a0_24 a0_25 a0_26).bind fun t417 => (some t417)) else (some false))) else (some ((a0_14 == 0 && (a0_15 == 0 && (a0_16 == 0 && (a0_17 == 0 && (a0_18 == 0 && (a0_19 == false)))))) && ((a0_20 == 0 && (a0_21 == 0)) && ((a0_22 == 0 && (a0_23 == 0 && (a0_24 == false))) && ((a0_25.toList == ((⟨#[]⟩ : ByteArray).toList) && (a0_26 == 0)))))))) else (some false))

theorem impl_IsSign.mono : ∀ a0 a1 a2 a3 a4 a5 a6 a7 a8 a9 a10 a11 a12 a13 a14 a15 a16 a17 a18 a19 a20 a21 a22 a23 a24 a25 a26 k, LeO (impl_IsSign.f k a0 a1 a2 a3 a4 a5 a6 a7 a8 a9 a10 a11 a12 a13 a14 a15 a16 a17 a18 a19 a20 a21 a22 a23 a24 a25 a26) (impl_IsSign.f (k + 1) a0 a1 a2 a3 a4 a5 a6 a7 a8 a9 a10 a11 a12 a13 a14 a15 a16 a17 a18 a19 a20 a21 a22 a23 a24 a25 a26) := by
  intro a0 a1 a2 a3 a4 a5 a6 a7 a8 a9 a10 a11 a12 a13 a14 a15 a16 a17 a18 a19 a20 a21 a22 a23 a24 a25 a26 k
  unfold impl_IsSign.f
  repeat' first
      | (with_reducible exact impl_IsHand.mono _ _ _ _ _ _ _ _ _ _ _ _ _ _)
      | (with_reducible exact impl_keepRules.mono _ _ _ _ _ _ _ _ _ _ _ _ _ _ _ _ _ _ _ _ _ _ _ _ _ _ _)
      | (with_reducible exact LeO.refl _)
      | (with_reducible exact LeO.none _)
      | (with_reducible refine LeO.ite ?_ ?_)
      | (with_reducible refine LeO.bind ?_ (fun _ => ?_))
      | exact impl_IsHand.mono _ _ _ _ _ _ _ _ _ _ _ _ _ _
      | exact impl_keepRules.mono _ _ _ _ _ _ _ _ _ _ _ _ _ _ _ _ _ _ _ _ _ _ _ _ _ _ _
      | exact LeO.none _
      | refine LeO.ite ?_ ?_
      | refine LeO.bind ?_ (fun _ => ?_)

def impl_IsSign.e (k : Nat) : Refl.Ent G := ⟨37, [(.agg gL1)], .one (.c .bool), fun x => impl_IsSign.f k x.1 x.2.1 x.2.2.1 x.2.2.2.1 x.2.2.2.2.1 x.2.2.2.2.2.1 x.2.2.2.2.2.2.1 x.2.2.2.2.2.2.2.1 x.2.2.2.2.2.2.2.2.1 x.2.2.2.2.2.2.2.2.2.1 x.2.2.2.2.2.2.2.2.2.2.1 x.2.2.2.2.2.2.2.2.2.2.2.1 x.2.2.2.2.2.2.2.2.2.2.2.2.1 x.2.2.2.2.2.2.2.2.2.2.2.2.2.1 x.2.2.2.2.2.2.2.2.2.2.2.2.2.2.1 x.2.2.2.2.2.2.2.2.2.2.2.2.2.2.2.1 x.2.2.2.2.2.2.2.2.2.2.2.2.2.2.2.2.1 x.2.2.2.2.2.2.2.2.2.2.2.2.2.2.2.2.2.1 x.2.2.2.2.2.2.2.2.2.2.2.2.2.2.2.2.2.2.1 x.2.2.2.2.2.2.2.2.2.2.2.2.2.2.2.2.2.2.2.1 x.2.2.2.2.2.2.2.2.2.2.2.2.2.2.2.2.2.2.2.2.1 x.2.2.2.2.2.2.2.2.2.2.2.2.2.2.2.2.2.2.2.2.2.1 x.2.2.2.2.2.2.2.2.2.2.2.2.2.2.2.2.2.2.2.2.2.2.1 x.2.2.2.2.2.2.2.2.2.2.2.2.2.2.2.2.2.2.2.2.2.2.2.1 x.2.2.2.2.2.2.2.2.2.2.2.2.2.2.2.2.2.2.2.2.2.2.2.2.1 x.2.2.2.2.2.2.2.2.2.2.2.2.2.2.2.2.2.2.2.2.2.2.2.2.2.1 x.2.2.2.2.2.2.2.2.2.2.2.2.2.2.2.2.2.2.2.2.2.2.2.2.2.2⟩
theorem impl_IsSign.ok (k : Nat) : Refl.EntOK Tryz.prog (impl_IsSign.e k) := Refl.ent_ok 1000000 k GC (fun k => [impl_IsHand.e k, impl_keepRules.e k]) (fun k => ⟨impl_IsHand.ok k, impl_keepRules.ok k, trivial⟩) Tryz.func37 (by kernel_rfl) [] (ps := []) (by kernel_rfl) trivial (fun x => by kernel_rfl)

/-! ### impl_areSigns: function 78 -/

def as1.f (k : Nat) (a0 : Int) (a1 : Int) (a2 : Int) (a3 : Int) (a4 : Int) (a5 : Bool) (a6 : Int) (a7 : Int) (a8 : Int) (a9 : Int) (a10 : Bool) (a11 : ByteArray) (a12 : Int) (a13 : Bool) (a14 : Int) (a15 : Int) (a16 : Int) (a17 : Int) (a18 : Int) (a19 : Bool) (a20 : Int) (a21 : Int) (a22 : Int) (a23 : Int) (a24 : Bool) (a25 : ByteArray) (a26 : Int) : Option Bool := (impl_IsSign.f k a0 a1 a2 a3 a4 a5 a6 a7 a8 a9 a10 a11 a12 a13 a14 a15 a16 a17 a18 a19 a20 a21 a22 a23 a24 a25 a26).bind fun t => some (!t)

def as2.l0 : Nat → List S44 → Int → Int → Option Int
  | 0, _, _, _ => none
  | k + 1, l, n, i => if i < n then (if 0 ≤ i then (if i < (l.length : Int) then ((as1.f k ((rd_T44 l i).f0.f0.f0) ((rd_T44 l i).f0.f0.f1) ((rd_T44 l i).f0.f0.f2) ((rd_T44 l i).f0.f0.f3) ((rd_T44 l i).f0.f0.f4) ((rd_T44 l i).f0.f0.f5) ((rd_T44 l i).f0.f1.f0) ((rd_T44 l i).f0.f1.f1) ((rd_T44 l i).f0.f2.f0) ((rd_T44 l i).f0.f2.f1) ((rd_T44 l i).f0.f2.f2) ((rd_T44 l i).f0.f3.f0) ((rd_T44 l i).f0.f3.f1) ((rd_T44 l i).f1) ((rd_T44 l i).f2.f0.f0) ((rd_T44 l i).f2.f0.f1) ((rd_T44 l i).f2.f0.f2) ((rd_T44 l i).f2.f0.f3) ((rd_T44 l i).f2.f0.f4) ((rd_T44 l i).f2.f0.f5) ((rd_T44 l i).f2.f1.f0) ((rd_T44 l i).f2.f1.f1) ((rd_T44 l i).f2.f2.f0) ((rd_T44 l i).f2.f2.f1) ((rd_T44 l i).f2.f2.f2) ((rd_T44 l i).f2.f3.f0) ((rd_T44 l i).f2.f3.f1)).bind fun t => if t = true then (some i) else (as2.l0 k l n (wrap64 (i + 1)))) else (none)) else (none)) else (some (-1))

def as2.f (k : Nat) (l : List S44) : Option Int := as2.l0 k l (l.length : Int) 0

def as3.f (k : Nat) (l : List S44) : Option Bool := (as2.f k l).bind fun t => some (decide (t ≥ 0))

def as4.f (k : Nat) (l : List S44) : Option Bool := (as3.f k l).bind fun t => some (!t)

def impl_areSigns.f (k : Nat) (l0 : List S44) (a1 : Int) : Option Bool := if (l0.length : Int) ≤ a1 then ((as4.f k l0).bind fun t => some t) else (some false)

theorem as1.mono : ∀ a0 a1 a2 a3 a4 a5 a6 a7 a8 a9 a10 a11 a12 a13 a14 a15 a16 a17 a18 a19 a20 a21 a22 a23 a24 a25 a26 k, LeO (as1.f k a0 a1 a2 a3 a4 a5 a6 a7 a8 a9 a10 a11 a12 a13 a14 a15 a16 a17 a18 a19 a20 a21 a22 a23 a24 a25 a26) (as1.f (k + 1) a0 a1 a2 a3 a4 a5 a6 a7 a8 a9 a10 a11 a12 a13 a14 a15 a16 a17 a18 a19 a20 a21 a22 a23 a24 a25 a26) := by
  intro a0 a1 a2 a3 a4 a5 a6 a7 a8 a9 a10 a11 a12 a13 a14 a15 a16 a17 a18 a19 a20 a21 a22 a23 a24 a25 a26 k
  unfold as1.f
  repeat' first
  | (with_reducible exact impl_IsSign.mono _ _ _ _ _ _ _ _ _ _ _ _ _ _ _ _ _ _ _ _ _ _ _ _ _ _ _ _)
  | exact LeO.refl _
  | exact LeO.none _
  | refine LeO.ite ?_ ?_
  | refine LeO.bind ?_ (fun _ => ?_)

theorem as2.mono_l : ∀ k l n i, LeO (as2.l0 k l n i) (as2.l0 (k + 1) l n i)
  | 0 => fun _ _ _ r h => by simp [as2.l0] at h
  | k + 1 => by
    have ih := as2.mono_l k
    intro l n i
    unfold as2.l0
    repeat' first
    | (with_reducible exact ih _ _ _)
    | (with_reducible exact as1.mono _ _ _ _ _ _ _ _ _ _ _ _ _ _ _ _ _ _ _ _ _ _ _ _ _ _ _ _)
    | exact LeO.refl _
    | exact LeO.none _
    | refine LeO.ite ?_ ?_
    | refine LeO.bind ?_ (fun _ => ?_)

theorem as2.mono : ∀ l k, LeO (as2.f k l) (as2.f (k + 1) l) := by
  intro l k
  unfold as2.f
  repeat' first
  | (with_reducible exact as2.mono_l _ _ _ _)
  | exact LeO.refl _
  | exact LeO.none _
  | refine LeO.ite ?_ ?_
  | refine LeO.bind ?_ (fun _ => ?_)

theorem as3.mono : ∀ l k, LeO (as3.f k l) (as3.f (k + 1) l) := by
  intro l k
  unfold as3.f
  repeat' first
  | (with_reducible exact as2.mono _ _)
  | exact LeO.refl _
  | exact LeO.none _
  | refine LeO.ite ?_ ?_
  | refine LeO.bind ?_ (fun _ => ?_)

theorem as4.mono : ∀ l k, LeO (as4.f k l) (as4.f (k + 1) l) := by
  intro l k
  unfold as4.f
  repeat' first
  | (with_reducible exact as3.mono _ _)
  | exact LeO.refl _
  | exact LeO.none _
  | refine LeO.ite ?_ ?_
  | refine LeO.bind ?_ (fun _ => ?_)

theorem impl_areSigns.mono : ∀ l0 a1 k, LeO (impl_areSigns.f k l0 a1) (impl_areSigns.f (k + 1) l0 a1) := by
  intro l0 a1 k
  unfold impl_areSigns.f
  repeat' first
  | (with_reducible exact as4.mono _ _)
  | exact LeO.refl _
  | exact LeO.none _
  | refine LeO.ite ?_ ?_
  | refine LeO.bind ?_ (fun _ => ?_)

def impl_areSigns.e (k : Nat) : Refl.Ent G := ⟨78, [(.c (.row 44 false)), (.c li)], .one (.c .bool), fun x => impl_areSigns.f k x.1 x.2⟩
def as1.e (k : Nat) : Refl.Ent G := ⟨169, [.agg [li, li, li, li, li, .bool, li, li, li, li, .bool, .str, li, .bool, li, li, li, li, li, .bool, li, li, li, li, .bool, .str, li], .ref [.fn 37]], .one (.c .bool), fun x => as1.f k x.1 x.2.1 x.2.2.1 x.2.2.2.1 x.2.2.2.2.1 x.2.2.2.2.2.1 x.2.2.2.2.2.2.1 x.2.2.2.2.2.2.2.1 x.2.2.2.2.2.2.2.2.1 x.2.2.2.2.2.2.2.2.2.1 x.2.2.2.2.2.2.2.2.2.2.1 x.2.2.2.2.2.2.2.2.2.2.2.1 x.2.2.2.2.2.2.2.2.2.2.2.2.1 x.2.2.2.2.2.2.2.2.2.2.2.2.2.1 x.2.2.2.2.2.2.2.2.2.2.2.2.2.2.1 x.2.2.2.2.2.2.2.2.2.2.2.2.2.2.2.1 x.2.2.2.2.2.2.2.2.2.2.2.2.2.2.2.2.1 x.2.2.2.2.2.2.2.2.2.2.2.2.2.2.2.2.2.1 x.2.2.2.2.2.2.2.2.2.2.2.2.2.2.2.2.2.2.1 x.2.2.2.2.2.2.2.2.2.2.2.2.2.2.2.2.2.2.2.1 x.2.2.2.2.2.2.2.2.2.2.2.2.2.2.2.2.2.2.2.2.1 x.2.2.2.2.2.2.2.2.2.2.2.2.2.2.2.2.2.2.2.2.2.1 x.2.2.2.2.2.2.2.2.2.2.2.2.2.2.2.2.2.2.2.2.2.2.1 x.2.2.2.2.2.2.2.2.2.2.2.2.2.2.2.2.2.2.2.2.2.2.2.1 x.2.2.2.2.2.2.2.2.2.2.2.2.2.2.2.2.2.2.2.2.2.2.2.2.1 x.2.2.2.2.2.2.2.2.2.2.2.2.2.2.2.2.2.2.2.2.2.2.2.2.2.1 x.2.2.2.2.2.2.2.2.2.2.2.2.2.2.2.2.2.2.2.2.2.2.2.2.2.2.1⟩
theorem as1.ok (k : Nat) : Refl.EntOK Tryz.prog (as1.e k) := Refl.ent_ok 1000000 k GC (fun k => [impl_IsSign.e k]) (fun k => ⟨impl_IsSign.ok k, trivial⟩) Tryz.func169 (by kernel_rfl) [] (ps := []) (by kernel_rfl) trivial (fun x => by kernel_rfl)
def as2.e (k : Nat) : Refl.Ent G := ⟨188, [.c (.row 44 false), .clo 169 [[.fn 37]]], .one (.c li), fun x => as2.f k x.1⟩
def as2.p : Refl.Pn G (Refl.PT G (as2.e 0).ol) := ⟨true, 0, ⟨[(0, .v (.c (.row 44 false))), (1, .v (.clo 169 [[.fn 37]])), (7, .v (.c li)), (8, .v (.c li)), (4, .k (.int .i64 0))], []⟩, fun k x => as2.l0 k x.1 x.2.2.1 x.2.2.2⟩
theorem as2.ok (k : Nat) : Refl.EntOK Tryz.prog (as2.e k) := Refl.ent_ok 1000000 k GC (fun k => [as1.e k]) (fun k => ⟨as1.ok k, trivial⟩) Tryz.func188 (by kernel_rfl) [as2.p] (ps := [as2.p]) (by kernel_rfl) ⟨⟨fun x => by kernel_rfl, fun k x => by kernel_rfl⟩, trivial⟩ (fun x => by kernel_rfl)
def as3.e (k : Nat) : Refl.Ent G := ⟨168, [.c (.row 44 false), .clo 169 [[.fn 37]]], .one (.c .bool), fun x => as3.f k x.1⟩
theorem as3.ok (k : Nat) : Refl.EntOK Tryz.prog (as3.e k) := Refl.ent_ok 1000000 k GC (fun k => [as2.e k]) (fun k => ⟨as2.ok k, trivial⟩) Tryz.func168 (by kernel_rfl) [] (ps := []) (by kernel_rfl) trivial (fun x => by kernel_rfl)
def as4.e (k : Nat) : Refl.Ent G := ⟨123, [.c (.row 44 false), .clo 37 []], .one (.c .bool), fun x => as4.f k x⟩
theorem as4.ok (k : Nat) : Refl.EntOK Tryz.prog (as4.e k) := Refl.ent_ok 1000000 k GC (fun k => [as3.e k]) (fun k => ⟨as3.ok k, trivial⟩) Tryz.func123 (by kernel_rfl) [] (ps := []) (by kernel_rfl) trivial (fun x => by kernel_rfl)
theorem impl_areSigns.ok (k : Nat) : Refl.EntOK Tryz.prog (impl_areSigns.e k) := Refl.ent_ok 1000000 k GC (fun k => [as4.e k]) (fun k => ⟨as4.ok k, trivial⟩) Tryz.func78 (by kernel_rfl) [] (ps := []) (by kernel_rfl) trivial (fun x => by kernel_rfl)

/-! ### impl_isMade: function 42 -/

def impl_isMade.f (k : Nat) (l0 : List (S44)) : Option (Bool) := if (l0.length : Int) ≥ 2 then ((impl_areSigns.f k l0 4).bind fun t418 => (some t418)) else (some false)

theorem impl_isMade.mono : ∀ a0 k, LeO (impl_isMade.f k a0) (impl_isMade.f (k + 1) a0) := by
  intro a0 k
  unfold impl_isMade.f
  repeat' first
      | (with_reducible exact impl_areSigns.mono _ _ _)
      | (with_reducible exact LeO.refl _)
      | (with_reducible exact LeO.none _)
      | (with_reducible refine LeO.ite ?_ ?_)
      | (with_reducible refine LeO.bind ?_ (fun _ => ?_))
      | exact impl_areSigns.mono _ _ _
      | exact LeO.none _
      | refine LeO.ite ?_ ?_
      | refine LeO.bind ?_ (fun _ => ?_)

def impl_isMade.e (k : Nat) : Refl.Ent G := ⟨42, [(.c (.row 44 false))], .one (.c .bool), fun x => impl_isMade.f k x⟩
theorem impl_isMade.ok (k : Nat) : Refl.EntOK Tryz.prog (impl_isMade.e k) := Refl.ent_ok 1000000 k GC (fun k => [impl_areSigns.e k]) (fun k => ⟨impl_areSigns.ok k, trivial⟩) Tryz.func42 (by kernel_rfl) [] (ps := []) (by kernel_rfl) trivial (fun x => by kernel_rfl)

/-! ### impl_Sign_43: function 43 -/

def impl_Sign_43.l0 : Nat → List (S44) → List (S44) → Int → Int → Option (Bool)
  | 0, _, _, _, _ => none
  | k + 1, x0, x1, x12, x13 => if x13 < x12 then (if 0 ≤ x13 then (if x13 < (x0.length : Int) then (if 0 ≤ x13 then (if x13 < (x1.length : Int) then (if ((((((rd_T44 x0 x13).f0.f0.f0) == ((rd_T44 x1 x13).f0.f0.f0) && (((rd_T44 x0 x13).f0.f0.f1) == ((rd_T44 x1 x13).f0.f0.f1) && (((rd_T44 x0 x13).f0.f0.f2) == ((rd_T44 x1 x13).f0.f0.f2) && (((rd_T44 x0 x13).f0.f0.f3) == ((rd_T44 x1 x13).f0.f0.f3) && (((rd_T44 x0 x13).f0.f0.f4) == ((rd_T44 x1 x13).f0.f0.f4) && (((rd_T44 x0 x13).f0.f0.f5) == ((rd_T44 x1 x13).f0.f0.f5))))))) && ((((rd_T44 x0 x13).f0.f1.f0) == ((rd_T44 x1 x13).f0.f1.f0) && (((rd_T44 x0 x13).f0.f1.f1) == ((rd_T44 x1 x13).f0.f1.f1))) && ((((rd_T44 x0 x13).f0.f2.f0) == ((rd_T44 x1 x13).f0.f2.f0) && (((rd_T44 x0 x13).f0.f2.f1) == ((rd_T44 x1 x13).f0.f2.f1) && (((rd_T44 x0 x13).f0.f2.f2) == ((rd_T44 x1 x13).f0.f2.f2)))) && (((((rd_T44 x0 x13).f0.f3.f0).toList) == (((rd_T44 x1 x13).f0.f3.f0).toList) && (((rd_T44 x0 x13).f0.f3.f1) == ((rd_T44 x1 x13).f0.f3.f1))))))) && (((rd_T44 x0 x13).f1) == ((rd_T44 x1 x13).f1) && (((((rd_T44 x0 x13).f2.f0.f0) == ((rd_T44 x1 x13).f2.f0.f0) && (((rd_T44 x0 x13).f2.f0.f1) == ((rd_T44 x1 x13).f2.f0.f1) && (((rd_T44 x0 x13).f2.f0.f2) == ((rd_T44 x1 x13).f2.f0.f2) && (((rd_T44 x0 x13).f2.f0.f3) == ((rd_T44 x1 x13).f2.f0.f3) && (((rd_T44 x0 x13).f2.f0.f4) == ((rd_T44 x1 x13).f2.f0.f4) && (((rd_T44 x0 x13).f2.f0.f5) == ((rd_T44 x1 x13).f2.f0.f5))))))) && ((((rd_T44 x0 x13).f2.f1.f0) == ((rd_T44 x1 x13).f2.f1.f0) && (((rd_T44 x0 x13).f2.f1.f1) == ((rd_T44 x1 x13).f2.f1.f1))) && ((((rd_T44 x0 x13).f2.f2.f0) == ((rd_T44 x1 x13).f2.f2.f0) && (((rd_T44 x0 x13).f2.f2.f1) == ((rd_T44 x1 x13).f2.f2.f1) && (((rd_T44 x0 x13).f2.f2.f2) == ((rd_T44 x1 x13).f2.f2.f2)))) && (((((rd_T44 x0 x13).f2.f3.f0).toList) == (((rd_T44 x1 x13).f2.f3.f0).toList) && (((rd_T44 x0 x13).f2.f3.f1) == ((rd_T44 x1 x13).f2.f3.f1)))))))))) = true) then (impl_Sign_43.l0 k x0 x1 x12 (wrap64 (x13 + 1))) else (some false)) else (none)) else (none)) else (none)) else (none)) else (some true)

def impl_Sign_43.f (k : Nat) (l0 : List (S44)) (l1 : List (S44)) : Option (Bool) := if (l0.length : Int) = (l1.length : Int) then (impl_Sign_43.l0 k l0 l1 (l0.length : Int) 0) else (some false)

theorem impl_Sign_43.mono_l : ∀ k, (∀ y0 y1 y2 y3, LeO (impl_Sign_43.l0 k y0 y1 y2 y3) (impl_Sign_43.l0 (k + 1) y0 y1 y2 y3))
  | 0 => fun _ _ _ _ r h => by simp [impl_Sign_43.l0] at h
  | k + 1 => by
    have ih0 := impl_Sign_43.mono_l k
    · intro y0 y1 y2 y3
      unfold impl_Sign_43.l0
      repeat' first
      | (with_reducible exact ih0 _ _ _ _)
      | (with_reducible exact LeO.refl _)
      | (with_reducible exact LeO.none _)
      | (with_reducible refine LeO.ite ?_ ?_)
      | (with_reducible refine LeO.bind ?_ (fun _ => ?_))
      | exact ih0 _ _ _ _
      | exact LeO.none _
      | refine LeO.ite ?_ ?_
      | refine LeO.bind ?_ (fun _ => ?_)

theorem impl_Sign_43.mono : ∀ a0 a1 k, LeO (impl_Sign_43.f k a0 a1) (impl_Sign_43.f (k + 1) a0 a1) := by
  intro a0 a1 k
  have ih0 := impl_Sign_43.mono_l k
  unfold impl_Sign_43.f
  repeat' first
      | (with_reducible exact ih0 _ _ _ _)
      | (with_reducible exact LeO.refl _)
      | (with_reducible exact LeO.none _)
      | (with_reducible refine LeO.ite ?_ ?_)
      | (with_reducible refine LeO.bind ?_ (fun _ => ?_))
      | exact ih0 _ _ _ _
      | exact LeO.none _
      | refine LeO.ite ?_ ?_
      | refine LeO.bind ?_ (fun _ => ?_)

def impl_Sign_43.e (k : Nat) : Refl.Ent G := ⟨43, [(.c (.row 44 false)), (.c (.row 44 false))], .one (.c .bool), fun x => impl_Sign_43.f k x.1 x.2⟩
def impl_Sign_43.pl0 : Refl.Pn G (Refl.PT G (impl_Sign_43.e 0).ol) := ⟨true, 0, ⟨[(0, .v (.c (.row 44 false))), (1, .v (.c (.row 44 false))), (12, .v (.c li)), (13, .v (.c li)), (4, .k (Value.bool false))], []⟩, fun k x => impl_Sign_43.l0 k x.1 x.2.1 x.2.2.1 x.2.2.2⟩
theorem impl_Sign_43.ok (k : Nat) : Refl.EntOK Tryz.prog (impl_Sign_43.e k) := Refl.ent_ok 1000000 k GC (fun k => []) (fun k => trivial) Tryz.func43 (by kernel_rfl) [impl_Sign_43.pl0] (ps := [impl_Sign_43.pl0]) (by kernel_rfl) ⟨⟨fun x => by kernel_rfl, fun k x => by kernel_rfl⟩, trivial⟩ (fun x => by kernel_rfl)

/-! ### impl_Sign_79: function 79 -/

def impl_Sign_79.f (l0 : List S44) : Option (List S44) := if l0.length = 0 then none else (if l0.length ≤ 1000000 then some l0 else none)

def impl_Sign_79.e (k : Nat) : Refl.Ent G := ⟨79, [(.c (.row 44 false))], .one (.c (.own 44)), fun x => impl_Sign_79.f x⟩
theorem app_exec {P : Program} {a : Act} {o : Oper} {c : Call} {W w1 : World} {x y v : Value} {X Y : Operand} {t : TypeId} (h : o.op = .call c) (hc : c.callee = .builtin .append) (ea : c.args = #[X, Y]) (et : c.argTypes = #[t, t]) (hx : a.eval X = x) (hy : a.eval Y = y) (hr : (Builtin.append_ #[t, t] o.type #[x, y]).run P W = .ok v w1) : (execOp a.eval o).run P W = .ok (.value v) w1 := by
  simp only [execOp, h, resolve, hc, ea, et, invoke, builtin, Sem.run_bind, Sem.run_pure, Result.andThen_ok, List.map_toArray, List.map_cons, List.map_nil, hx, hy, hr]
set_option maxHeartbeats 4000000 in
set_option maxRecDepth 100000 in
theorem clone_calls (xs ys : List (G.kd 44).α) (h : impl_Sign_79.f xs = some ys) (S : Nat → Nat → Prop) (w : World) (y0 : Value) (h0 : Refl.RowRep w.heap.size S Refl.μ0 w (G.kd 44).K 44 xs .ro y0) :
    Calls Tryz.prog 79 #[y0] w fun en w' => ∃ (g : Nat) (cur : Array Value) (c : Nat) (rest : List Value), w.heap.size ≤ g ∧ w'.heap[g]? = some (.cells cur 44 (0, 0)) ∧ cur.toList = ys.flatMap (G.kd 44).K.enc ++ rest ∧ ys.length ≤ maxLen ∧ ys.length ≤ c ∧ en = .returned (.slice (some ⟨g, 0, none⟩) ys.length c) ∧ Below w.heap.size w w' := by
  replace h : (if xs.length = 0 then none else (if xs.length ≤ 1000000 then some xs else none)) = some ys := h
  split at h
  · cases h
  · rename_i hne
    split at h
    · rename_i hle
      obtain rfl := Option.some.inj h
      obtain ⟨A, c, rfl, g1, g2, g3, _⟩ := h0
      obtain ⟨b, off, rfl, hcell⟩ := g3 (by omega)
      have hq := fun (W : World) a n c => Lib.run_eql_slice_nil (P := Tryz.prog) W 50 44 a n c 0 0 Tryz.underlying50
      have ht : G.td 50 = .sl 44 232 := by kernel_rfl
      obtain ⟨ii, ie, z, hu, hi1, _, _, hie, hiz, hsz, hby, hzs, hb0, hlast⟩ := Refl.td_sl GC ht
      have hB : Below w.heap.size w (w.alloc (.cells #[] 44)) := (Below.refl _ _).alloc (Nat.le_refl _) _
      have hfl : (xs.flatMap (G.kd 44).K.enc).length = xs.length * ie.size := by rw [hsz]; exact Refl.flat_len _ _
      have ha := run_append_grow (P := Tryz.prog) (w := w.alloc (.cells #[] 44)) 50 50 44 ie z hu hie hiz ⟨w.heap.size, 0, none⟩ 0 0 [] (by simp) (fun j v hj => by simp at hj) ⟨b, off, none⟩ xs.length c (xs.flatMap (G.kd 44).K.enc) hfl (fun j v hj => by
        have h1 := (hcell j v hj).1
        rw [Refl.add_plain']
        rw [hB.cell (p := ⟨b, off + j, none⟩) (Refl.lt_of_cell h1)]
        exact h1) (by omega) (by omega) (growslice_fits (by omega) (by rw [hby]; omega))
      clear hlast hzs
      generalize z.cells = zc at ha
      have hge := grownCap_ge (w.alloc (.cells #[] 44)) (0 + xs.length) 0 44
      clear g3 h
      go_enter Tryz.func79, Tryz.ntmps79
      go_wp2_with ((with_reducible refine gate_builtin (b := .append) (xs := #[.tmp 5, .tmp 6]) rfl ?_); refine Kd.event_run rfl (app_exec rfl rfl rfl rfl rfl rfl ha) ?_)
      go_ret
      refine ⟨(w.alloc (.cells #[] 44)).heap.size, _, grownCap (w.alloc (.cells #[] 44)) xs.length 0 44, _, by simp, heap_alloc_new _ _, Array.toList_append, g2, by simpa using hge, by simp, ?_⟩
      exact ((hB.alloc (by simp) _).drew)
    · cases h
theorem impl_Sign_79.ok (k : Nat) : Refl.EntOK Tryz.prog (impl_Sign_79.e k) := Refl.entOK_own Tryz.func79 (by kernel_rfl) (fun xs ys h S w y hy => clone_calls xs ys h S w y hy)

/-! ### impl_Move_reduced: function 124 -/

def impl_Move_reduced.l0 : Nat → ByteArray → Int → ByteArray → Int → Option (ByteArray × Int)
  | 0, _, _, _, _ => none
  | k + 1, x3, x4, x422000, x422001 => if x4 ≤ (x3.size : Int) then (if x4 = 0 then (none) else (if (Int.tmod (x3.size : Int) x4) = 0 then (if 0 ≤ x4 then (if x4 ≤ (x3.size : Int) then (if x4 = 0 then (none) else ((strings_Repeat.f (x3.extract 0 (x4 : Int).toNat) (wrap64 (Int.tdiv (x3.size : Int) x4))).bind fun t424 => (if t424.toList = x3.toList then (if 0 ≤ x4 then (if x4 ≤ (x3.size : Int) then (some (x3.extract 0 (x4 : Int).toNat, 1)) else (none)) else (none)) else (impl_Move_reduced.l0 k x3 (wrap64 (x4 + 1)) x422000 x422001)))) else (none)) else (none)) else (impl_Move_reduced.l0 k x3 (wrap64 (x4 + 1)) x422000 x422001))) else (some (x422000, x422001))

def impl_Move_reduced.f (k : Nat) (a0_0 : ByteArray) (a0_1 : Int) : Option (ByteArray × Int) := (impl_Move_all.f a0_0 a0_1).bind fun t423 => (impl_Move_reduced.l0 k t423 1 a0_0 a0_1)

theorem impl_Move_reduced.mono_l : ∀ k, (∀ y0 y1 y2 y3, LeO (impl_Move_reduced.l0 k y0 y1 y2 y3) (impl_Move_reduced.l0 (k + 1) y0 y1 y2 y3))
  | 0 => fun _ _ _ _ r h => by simp [impl_Move_reduced.l0] at h
  | k + 1 => by
    have ih0 := impl_Move_reduced.mono_l k
    · intro y0 y1 y2 y3
      unfold impl_Move_reduced.l0
      repeat' first
      | (with_reducible exact ih0 _ _ _ _)
      | (with_reducible exact LeO.refl _)
      | (with_reducible exact LeO.none _)
      | (with_reducible refine LeO.ite ?_ ?_)
      | (with_reducible refine LeO.bind ?_ (fun _ => ?_))
      | exact ih0 _ _ _ _
      | exact LeO.none _
      | refine LeO.ite ?_ ?_
      | refine LeO.bind ?_ (fun _ => ?_)

theorem impl_Move_reduced.mono : ∀ a0 a1 k, LeO (impl_Move_reduced.f k a0 a1) (impl_Move_reduced.f (k + 1) a0 a1) := by
  intro a0 a1 k
  have ih0 := impl_Move_reduced.mono_l k
  unfold impl_Move_reduced.f
  repeat' first
      | (with_reducible exact ih0 _ _ _ _)
      | (with_reducible exact LeO.refl _)
      | (with_reducible exact LeO.none _)
      | (with_reducible refine LeO.ite ?_ ?_)
      | (with_reducible refine LeO.bind ?_ (fun _ => ?_))
      | exact ih0 _ _ _ _
      | exact LeO.none _
      | refine LeO.ite ?_ ?_
      | refine LeO.bind ?_ (fun _ => ?_)

def impl_Move_reduced.e (k : Nat) : Refl.Ent G := ⟨124, [(.agg [.str, li])], .one (.agg [.str, li]), fun x => impl_Move_reduced.f k x.1 x.2⟩
def impl_Move_reduced.pl0 : Refl.Pn G (Refl.PT G (impl_Move_reduced.e 0).ol) := ⟨true, 0, ⟨[(3, .v (.c .str)), (4, .v (.c li)), (1, .box 1 0), (2, .box 2 0)], [(1, 40, gL3), (2, 40, gL4)]⟩, fun k x => impl_Move_reduced.l0 k x.1 x.2.1 x.2.2.1 x.2.2.2⟩
theorem impl_Move_reduced.ok (k : Nat) : Refl.EntOK Tryz.prog (impl_Move_reduced.e k) := Refl.ent_ok 1000000 k GC (fun k => [impl_Move_all.e k, strings_Repeat.e k]) (fun k => ⟨impl_Move_all.ok k, strings_Repeat.ok k, trivial⟩) Tryz.func124 (by kernel_rfl) [impl_Move_reduced.pl0] (ps := [impl_Move_reduced.pl0]) (by kernel_rfl) ⟨⟨fun x => by kernel_rfl, fun k x => by kernel_rfl⟩, trivial⟩ (fun x => by kernel_rfl)

end Go.Proofs.YtojfncpjgpklhaaGreatDoor.PA
