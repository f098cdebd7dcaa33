-- Written by a program of this session (wip/tools/myprint.py). Not trusted: Lean checks it.
import Derived.Test.YtndipmdabphgcaaPAx0
import Derived.Test.YtndipmdabphgcaaPAx11
import Derived.Test.YtndipmdabphgcaaPAx13
import Derived.Test.YtndipmdabphgcaaPAx32
namespace Go.Proofs.Ytndipmdabphgcaa.PA
open Go.RowKit Go.Proofs.YtndipmdabphgcaaW.PrintWords Go.Proofs.YtndipmdabphgcaaW.PrintLast Go.Proofs.YtndipmdabphgcaaW.PrintMore
attribute [local go_sem] max2_int min2_int max_two min_two max_three min_three max_four min_four   -- for this text's walks alone
set_option linter.unusedVariables false
set_option linter.unusedSimpArgs false

/-! ### impl_EndOfMove: function 30 -/
/-- How often a byte is in a text. -/
def cntB (s : ByteArray) (c : UInt8) : Int := (Lib.countByte s.data.toList c : Nat)
theorem cnt_call (s : ByteArray) (c : UInt8) : strings_Count.f s ⟨#[c]⟩ = some (cntB s c) := by
  unfold strings_Count.f
  rw [if_pos (by rfl)]
  rfl
set_option maxHeartbeats 4000000 in
set_option maxRecDepth 100000 in
theorem far_calls (s : ByteArray) (n : Int) (al : ByteArray) (hal : impl_Move_all.f s n = some al) (c d : UInt8) (g : Nat) (w : World) (hg : w.heap[g]? = some (.cells #[.string s, .int .i64 n] 33 (0, 0))) :
    Calls Try.prog 44 #[.string ⟨#[c]⟩, .string ⟨#[d]⟩, .pointer (some ⟨g, 0, none⟩)] w fun e w' => e = .returned (.int .i64 (wrap64 (cntB al c - cntB al d))) ∧ Below w.heap.size w w' := by
  have huM := Try.underlying33
  have HB := Aside0.mk (Below.refl w.heap.size w)
  have BK := Aside0.mk hg
  have hz0 : w.cell? ⟨g, 0, none⟩ = some (.string s) := (blk_cell hg 0).trans rfl
  have hz1 : w.cell? ⟨g, 1, none⟩ = some (.int .i64 n) := (blk_cell hg 1).trans rfl
  have HA := Aside0.mk hal
  have HC := Aside0.mk (cnt_call al c)
  have HD := Aside0.mk (cnt_call al d)
  generalize cntB al c = x at *
  generalize cntB al d = y at *
  clear hal hg
  go_enter Try.func44, Try.ntmps44
  go_wp2
  go_region_with (first | (go_at_call 36; (with_reducible refine (impl_Move_all.calls s n al _ HA.out).mono ?_); rintro e wq ⟨rfl, hb⟩; have n0_ := Aside0.mk (blk_below (g := g) (o := .cells #[.string s, .int .i64 n] 33 (0, 0)) (by (with_reducible repeat (first | refine blk_drewN ?_ _ | refine blk_drew ?_ | refine blk_alloc ?_ _)); exact BK.out) hb); have n1_ := Aside0.mk (below_step (by repeat (first | (with_reducible first | exact HB.out | apply below_alloc | apply pw_below_drewN | apply below_drew1) | exact HB.out)) hb); clear BK; clear HB; have BK := n0_; have HB := n1_; clear n0_ n1_ hb; have hz0 : wq.cell? ⟨g, 0, none⟩ = some (.string s) := (blk_cell BK.out 0).trans rfl; have hz1 : wq.cell? ⟨g, 1, none⟩ = some (.int .i64 n) := (blk_cell BK.out 1).trans rfl) | (go_at_call 45; (first | (with_reducible refine (strings_Count.calls al ⟨#[c]⟩ x _ HC.out).mono ?_) | (with_reducible refine (strings_Count.calls al ⟨#[d]⟩ y _ HD.out).mono ?_)); rintro e wq ⟨rfl, ⟨nd, rfl⟩⟩))
  all_goals go_wp2
  all_goals
    go_ret
    exact ⟨by first | exact congrArg (fun z => Ending.returned (Value.int .i64 z)) (i64_w (x - y)) | rfl | simp, by repeat (first | (with_reducible first | exact HB.out | apply below_alloc | apply pw_below_drewN | apply below_drew1) | exact HB.out)⟩
/-- How far a movement leads. -/
def emV (al : ByteArray) : Int × Int × Int × Bool := (wrap64 (cntB al 114 - cntB al 108), wrap64 (cntB al 117 - cntB al 100), wrap64 (cntB al 102 - cntB al 98), true)
def impl_EndOfMove.f (k : Nat) (a0_0 : ByteArray) (a0_1 : Int) : Option (Int × Int × Int × Bool) :=
  (impl_IsMove.f k a0_0 a0_1).bind fun t => if t = true then ((impl_Move_all.f a0_0 a0_1).bind fun al => some (emV al)) else some (0, 0, 0, false)
theorem impl_EndOfMove.mono : ∀ a0 a1 k, LeO (impl_EndOfMove.f k a0 a1) (impl_EndOfMove.f (k + 1) a0 a1) := by
  intro a0 a1 k
  unfold impl_EndOfMove.f
  exact LeO.bind (impl_IsMove.mono _ _ _) (fun _ => LeO.refl _)
set_option maxHeartbeats 4000000 in
set_option maxRecDepth 100000 in
theorem impl_EndOfMove.calls (k : Nat) (a0_0 : ByteArray) (a0_1 : Int) (r1 : Int) (r2 : Int) (r3 : Int) (r4 : Bool) (w : World) (h : impl_EndOfMove.f k a0_0 a0_1 = some (r1, r2, r3, r4)) :
    Calls Try.prog 30 #[.agg #[.string a0_0, .int .i64 a0_1]] w fun e w' => e = .returned (.tuple #[.int .i64 r1, .int .i64 r2, .int .i64 r3, .bool r4]) ∧ Below w.heap.size w w' := by
  have huM := Try.underlying33
  have HB := Aside0.mk (Below.refl w.heap.size w)
  unfold impl_EndOfMove.f at h
  obtain ⟨t, hA, h⟩ := Option.bind_eq_some_iff.mp h
  have HA := Aside0.mk hA
  clear hA
  cases t
  · simp only [Bool.false_eq_true, if_false, Option.some.injEq, Prod.mk.injEq] at h
    obtain ⟨rfl, rfl, rfl, rfl⟩ := h
    go_enter Try.func30, Try.ntmps30
    go_wp2_with (first | ((with_reducible refine gate_dst (N := 1) rfl ?_); refine box_event ?hg (N := 1) ?hd (cs := #[.string a0_0, .int .i64 a0_1]) (t := 33) ?hr ?_; (case hd => rfl); (case hg => rfl); (case hr => first | (go_simp; done) | (go_simp; rfl)); intro g hg w7 hbox hb; have n0_ := Aside0.mk (below_step HB.out hb); clear HB; have HB := n0_; clear n0_; have c0 : w7.cell? ⟨g, 0, none⟩ = some (.string a0_0) := (blk_cell hbox 0).trans rfl; have c1 : w7.cell? ⟨g, 1, none⟩ = some (.int .i64 a0_1) := (blk_cell hbox 1).trans rfl; clear hb hbox hg) | (go_at_call 35; (with_reducible refine (impl_IsMove.calls k a0_0 a0_1 false _ HA.out).mono ?_); rintro e wq ⟨rfl, hb⟩; have n0_ := Aside0.mk (below_step HB.out hb); clear HB; have HB := n0_; clear n0_ hb))
    refine bodyPost_ret (results_list (rs := [.tmp 2, .tmp 3, .tmp 4, .tmp 5]) rfl (by simp) (.tmp (.tmp (.tmp (.tmp .nil))))) rfl ?_
    exact ⟨by first | rfl | simp, HB.out⟩
  · simp only [if_true] at h
    obtain ⟨al, hal, h⟩ := Option.bind_eq_some_iff.mp h
    have hF := fun c d g w hg => far_calls a0_0 a0_1 al hal c d g w hg
    have HF := Aside0.mk hF
    clear hF hal
    unfold emV at h
    simp only [Option.some.injEq, Prod.mk.injEq] at h
    obtain ⟨rfl, rfl, rfl, rfl⟩ := h
    go_enter Try.func30, Try.ntmps30
    go_wp2_with (first | ((with_reducible refine gate_dst (N := 1) rfl ?_); refine box_event ?hg (N := 1) ?hd (cs := #[.string a0_0, .int .i64 a0_1]) (t := 33) ?hr ?_; (case hd => rfl); (case hg => rfl); (case hr => first | (go_simp; done) | (go_simp; rfl)); intro g hg w7 hbox hb; have n0_ := Aside0.mk (below_step HB.out hb); clear HB; have HB := n0_; clear n0_; have c0 : w7.cell? ⟨g, 0, none⟩ = some (.string a0_0) := (blk_cell hbox 0).trans rfl; have c1 : w7.cell? ⟨g, 1, none⟩ = some (.int .i64 a0_1) := (blk_cell hbox 1).trans rfl; have BK := Aside0.mk hbox; clear hb hbox hg) | (go_at_call 35; (with_reducible refine (impl_IsMove.calls k a0_0 a0_1 true _ HA.out).mono ?_); rintro e wq ⟨rfl, hb⟩; have m0_ := Aside0.mk (blk_below BK.out hb); have n0_ := Aside0.mk (below_step HB.out hb); clear HB BK; have HB := n0_; have BK := m0_; clear n0_ m0_ hb) | (go_at_call 44; refine (HF.out _ _ _ _ BK.out).mono ?_; rintro e wq ⟨rfl, hb⟩; have m0_ := Aside0.mk (blk_below BK.out hb); have n0_ := Aside0.mk (below_step HB.out hb); clear HB BK; have HB := n0_; have BK := m0_; clear n0_ m0_ hb))
    refine bodyPost_ret (results_list (rs := [.tmp 2, .tmp 3, .tmp 4, .tmp 5]) rfl (by simp) (.tmp (.tmp (.tmp (.tmp .nil))))) rfl ?_
    exact ⟨by first | rfl | simp, HB.out⟩

end Go.Proofs.Ytndipmdabphgcaa.PA
