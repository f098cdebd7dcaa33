-- Written by a program of this session (wip/tools/myprint.py). Not trusted: Lean checks it.
import Derived.Test.YtndipmdabphgcaaPAx0
namespace Go.Proofs.Ytndipmdabphgcaa.PA
open Go.RowKit Go.Proofs.YtndipmdabphgcaaW.PrintWords Go.Proofs.YtndipmdabphgcaaW.PrintLast Go.Proofs.YtndipmdabphgcaaW.PrintMore
attribute [local go_sem] max2_int min2_int max_two min_two max_three min_three max_four min_four   -- for this text's walks alone
set_option linter.unusedVariables false
set_option linter.unusedSimpArgs false

/-! ### impl_Place_text: function 48 -/
def impl_Place_text.f (a0_0 : Int) (a0_1 : Int) (a0_2 : Bool) : Option ByteArray :=
  if 0 ≤ a0_0 ∧ a0_0 < 10 ∧ -1 ≤ a0_1 ∧ a0_1 ≤ 1 then some (plNms.getD a0_0.toNat ⟨#[]⟩ ++ plSide a0_1 ++ (if a0_2 = true then ⟨#[42]⟩ else ⟨#[]⟩)) else none
set_option maxHeartbeats 4000000 in
set_option maxRecDepth 100000 in
theorem plText_walk (k : Nat) (a0_1 : Int) (b : Bool) (w : World) (h1 : k < 10) (h2 : -1 ≤ a0_1) (h3 : a0_1 ≤ 1) :
    Calls Try.prog 48 #[.agg #[.int .i64 (k : Int), .int .i64 a0_1, .bool b]] w fun e w' => e = .returned (.string (plNms.getD k ⟨#[]⟩ ++ plSide a0_1 ++ (if b = true then ⟨#[42]⟩ else ⟨#[]⟩))) ∧ Below w.heap.size w w' := by
  have hc : ∀ o, ((w.alloc o).alloc (Obj.cells #[Value.string { data := #[115, 112, 97, 99, 101] }, Value.string { data := #[104, 101, 97, 100] }, Value.string { data := #[101, 121, 101] }, Value.string { data := #[99, 104, 101, 101, 107] }, Value.string { data := #[109, 111, 117, 116, 104] }, Value.string { data := #[99, 104, 105, 110] }, Value.string { data := #[110, 101, 99, 107] }, Value.string { data := #[99, 104, 101, 115, 116] }, Value.string { data := #[119, 97, 105, 115, 116] }, Value.string { data := #[104, 105, 112] }] 70)).cell? ⟨w.heap.size + 1, k, none⟩ = some (.string (plNms.getD k ⟨#[]⟩)) := fun o => by
    have := arr_cell (w.alloc o) _ 70 k _ (plNms_at k h1)
    rwa [World.size_alloc] at this
  have hi : ∀ (W : World) g, (Instr.indexAt 70 (.pointer (some ⟨g, 0, none⟩)) (.int .i64 (k : Int))).run Try.prog W = .ok (.pointer (some ⟨g, k, none⟩)) W := by
    intro W g
    rw [run_indexAt_array (h := Try.underlying70), if_pos ⟨by omega, by show (k : Int) < 10; omega⟩]
    show Result.ok _ _ = _
    show Result.ok (Value.pointer (some ((⟨g, 0, none⟩ : Addr).add (k * 1)))) W = _
    rw [Nat.mul_one, add_plain]
  have hn := plNms_size k
  generalize plNms.getD k ⟨#[]⟩ = nm at *
  have t0 := decide_eq_true (show nm.size ≤ 9223372036854775807 by omega)
  have u0 := eq_false (show ¬ (9223372036854775807 < nm.size) by omega)
  have t1 := decide_eq_true (show nm.size + 1 ≤ 9223372036854775807 by omega)
  have u1 := eq_false (show ¬ (9223372036854775807 < nm.size + 1) by omega)
  have t2 := decide_eq_true (show nm.size + 1 + 1 ≤ 9223372036854775807 by omega)
  have u2 := eq_false (show ¬ (9223372036854775807 < nm.size + 1 + 1) by omega)
  have h4 : a0_1 = -1 ∨ a0_1 = 0 ∨ a0_1 = 1 := by omega
  have i0 : ∀ W : World, (Instr.index 71 (.agg #[.string { data := #[60] }, .string { data := #[] }, .string { data := #[62] }]) (.int .i64 0)).run Try.prog W = .ok (.string { data := #[60] }) W := fun _ => by kernel_rfl
  have i1 : ∀ W : World, (Instr.index 71 (.agg #[.string { data := #[60] }, .string { data := #[] }, .string { data := #[62] }]) (.int .i64 1)).run Try.prog W = .ok (.string { data := #[] }) W := fun _ => by kernel_rfl
  have i2 : ∀ W : World, (Instr.index 71 (.agg #[.string { data := #[60] }, .string { data := #[] }, .string { data := #[62] }]) (.int .i64 2)).run Try.prog W = .ok (.string { data := #[62] }) W := fun _ => by kernel_rfl
  have r0 : IntKind.i64.wrap 0 = 0 := rfl
  have r1 : IntKind.i64.wrap 1 = 1 := rfl
  have r2 : IntKind.i64.wrap 2 = 2 := rfl
  clear h2 h3 h1 hn
  rcases h4 with rfl | rfl | rfl <;> cases b
  all_goals
    go_enter Try.func48, Try.ntmps48
    go_wp2
    go_quiet (fail)
    go_wp2
    go_ret
    exact ⟨by simp [plSide, bs_app_nil], by repeat (first | exact Below.refl _ _ | apply pw_below_drewN | apply below_drew1 | apply below_alloc)⟩
theorem impl_Place_text.calls (a0_0 : Int) (a0_1 : Int) (a0_2 : Bool) (r : ByteArray) (w : World) (h : impl_Place_text.f a0_0 a0_1 a0_2 = some r) :
    Calls Try.prog 48 #[.agg #[.int .i64 a0_0, .int .i64 a0_1, .bool a0_2]] w fun e w' => e = .returned (.string r) ∧ Below w.heap.size w w' := by
  unfold impl_Place_text.f at h
  split at h
  · rename_i hc
    obtain rfl := Option.some.inj h
    obtain ⟨k, rfl⟩ := Int.eq_ofNat_of_zero_le hc.1
    exact plText_walk k a0_1 a0_2 w (by omega) hc.2.2.1 hc.2.2.2
  · exact absurd h (by simp)

end Go.Proofs.Ytndipmdabphgcaa.PA
