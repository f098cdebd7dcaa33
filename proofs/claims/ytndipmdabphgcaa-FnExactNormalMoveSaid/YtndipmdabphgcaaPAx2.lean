-- Written by a program of this session (wip/tools/myprint.py). Not trusted: Lean checks it.
import Derived.Test.YtndipmdabphgcaaPAx0
import Derived.Test.YtndipmdabphgcaaPAx1
namespace Go.Proofs.Ytndipmdabphgcaa.PA
open Go.RowKit Go.Proofs.YtndipmdabphgcaaW.PrintWords Go.Proofs.YtndipmdabphgcaaW.PrintLast Go.Proofs.YtndipmdabphgcaaW.PrintMore
attribute [local go_sem] max2_int min2_int max_two min_two max_three min_three max_four min_four   -- for this text's walks alone
set_option linter.unusedVariables false
set_option linter.unusedSimpArgs false

/-! ### spec_plText: function 60 -/
/-- What the names' slice tells. -/
theorem plNames_tells {w : World} {e : Ending} {w' : World} {k : Nat} (hk : k < 10) (h : ∃ v0_ : Value, e = .returned (v0_) ∧ Kd.R Kd.string 9 w' w.heap.size (fun _ => True) v0_ plNms ∧ Below w.heap.size w w') :
    ∃ (ad : Addr) (c : Nat), e = .returned (.slice (some ad) 10 c) ∧ w'.cell? (ad.add k) = some (.string (plNms.getD k ⟨#[]⟩)) ∧ Below w.heap.size w w' := by
  obtain ⟨v, rfl, hr, hb⟩ := h
  obtain ⟨A, c, rfl⟩ := Kd.R_slice hr
  obtain ⟨ad, e, hx⟩ := Kd.at_string (Kd.R_reads' hr).2.2 (k : Int) (by omega) (by show (k : Int) < 10; omega)
  cases e
  exact ⟨ad, c, rfl, hx, hb⟩
set_option maxHeartbeats 4000000 in
set_option maxRecDepth 100000 in
theorem spec_plText_walk (k : Nat) (a0_1 : Int) (b : Bool) (w : World) (h1 : k < 10) :
    Calls Try.prog 60 #[.agg #[.int .i64 (k : Int), .int .i64 a0_1, .bool b]] w fun e w' => e = .returned (.string (plNms.getD k ⟨#[]⟩ ++ plSide a0_1 ++ (if b = true then ⟨#[42]⟩ else ⟨#[]⟩))) ∧ Below w.heap.size w w' := by
  have hu23 := Try.underlying23
  have hA := fun W => (spec_plNames.calls plNms W rfl).mono fun e w' h => plNames_tells h1 h
  have HB := Aside0.mk (Below.refl w.heap.size w)
  have hn := plNms_size k
  generalize plNms.getD k ⟨#[]⟩ = nm at *
  have s0 := eq_true (show nm.size + 1 ≤ 9223372036854775807 by omega)
  have t0 := decide_eq_true (show nm.size ≤ 9223372036854775807 by omega)
  have u0 := eq_false (show ¬ (9223372036854775807 < nm.size) by omega)
  have t1 := decide_eq_true (show nm.size + 1 ≤ 9223372036854775807 by omega)
  have u1 := eq_false (show ¬ (9223372036854775807 < nm.size + 1) by omega)
  have t2 := decide_eq_true (show nm.size + 1 + 1 ≤ 9223372036854775807 by omega)
  have u2 := eq_false (show ¬ (9223372036854775807 < nm.size + 1 + 1) by omega)
  have hk0 : (0 : Int) ≤ k := by omega
  have hk1 : (k : Int) < 10 := by omega
  clear h1 hn
  have HA := Aside0.mk hA
  clear hA
  have h4 : ((a0_1 == -1) = true ∧ plSide a0_1 = ⟨#[60]⟩) ∨ ((a0_1 == -1) = false ∧ (a0_1 == 1) = true ∧ plSide a0_1 = ⟨#[62]⟩) ∨ ((a0_1 == -1) = false ∧ (a0_1 == 1) = false ∧ plSide a0_1 = ⟨#[]⟩) := by
    unfold plSide
    by_cases h : a0_1 = -1
    · subst h; exact .inl ⟨rfl, rfl⟩
    · by_cases h2 : a0_1 = 1
      · subst h2; exact .inr (.inl ⟨rfl, rfl, rfl⟩)
      · exact .inr (.inr ⟨by simpa using h, by simpa using h2, by rw [if_neg h, if_neg h2]⟩)
  generalize plSide a0_1 = sd at *
  rcases h4 with ⟨h5, rfl⟩ | ⟨h5, h6, rfl⟩ | ⟨h5, h6, rfl⟩
  all_goals
    go_enter Try.func60, Try.ntmps60
    go_wp2_with (first | ((with_reducible refine gate_dst (N := 1) rfl ?_); refine box_event ?hg (N := 1) ?hd (cs := #[.int .i64 (k : Int), .int .i64 a0_1, .bool b]) (t := 23) ?hr ?_; (case hd => rfl); (case hg => rfl); (case hr => first | (go_simp; done) | (go_simp; rfl)); intro g hg w7 hbox hb; have n0_ := Aside0.mk (below_step HB.out hb); clear HB; have HB := n0_; clear n0_; have c0 : w7.cell? ⟨g, 0, none⟩ = some (.int .i64 (k : Int)) := (blk_cell hbox 0).trans rfl; have c1 : w7.cell? ⟨g, 1, none⟩ = some (.int .i64 a0_1) := (blk_cell hbox 1).trans rfl; have c2 : w7.cell? ⟨g, 2, none⟩ = some (.bool b) := (blk_cell hbox 2).trans rfl; have BK := Aside0.mk hbox; clear hb hbox hg))
    go_region_with (go_at_call 72; refine (HA.out _).mono ?_; rintro e w8 ⟨ad, cp, rfl, hx, hb8⟩; have BK8 := blk_below (blk_drew BK.out) hb8; have d0 : w8.cell? ⟨g, 0, none⟩ = some (.int .i64 (k : Int)) := (blk_cell BK8 0).trans rfl; have d1 : w8.cell? ⟨g, 1, none⟩ = some (.int .i64 a0_1) := (blk_cell BK8 1).trans rfl; have d2 : w8.cell? ⟨g, 2, none⟩ = some (.bool b) := (blk_cell BK8 2).trans rfl; have HB8 := Aside0.mk (below_step (below_drew1 HB.out) hb8); clear BK8 hb8)
  all_goals go_wp2
  all_goals
    go_ret
    exact ⟨by simp [bs_app_nil], by repeat (first | exact HB8.out | apply pw_below_drewN | apply below_drew1 | apply below_alloc)⟩
def spec_plText.f (a0_0 : Int) (a0_1 : Int) (a0_2 : Bool) : Option ByteArray :=
  if 0 ≤ a0_0 ∧ a0_0 < 10 then some (plNms.getD a0_0.toNat ⟨#[]⟩ ++ plSide a0_1 ++ (if a0_2 = true then ⟨#[42]⟩ else ⟨#[]⟩)) else none
theorem spec_plText.calls (a0_0 : Int) (a0_1 : Int) (a0_2 : Bool) (r : ByteArray) (w : World) (h : spec_plText.f a0_0 a0_1 a0_2 = some r) :
    Calls Try.prog 60 #[.agg #[.int .i64 a0_0, .int .i64 a0_1, .bool a0_2]] w fun e w' => e = .returned (.string r) ∧ Below w.heap.size w w' := by
  unfold spec_plText.f at h
  split at h
  · rename_i hc
    obtain rfl := Option.some.inj h
    obtain ⟨k, rfl⟩ := Int.eq_ofNat_of_zero_le hc.1
    exact spec_plText_walk k a0_1 a0_2 w (by omega)
  · exact absurd h (by simp)

end Go.Proofs.Ytndipmdabphgcaa.PA
