-- Written by a program of this session (wip/tools/myprint.py). Not trusted: Lean checks it.
import Derived.Test.YtgpkeclojbcgoaaGreatDoorCtx
import Derived.Test.YtgpkeclojbcgoaaGreatDoorPAx1
import Derived.Test.YtgpkeclojbcgoaaGreatDoorPAx2
namespace Go.Proofs.YtgpkeclojbcgoaaGreatDoor.PA
open Go.RowKit Go.Proofs.YtgpkeclojbcgoaaGreatDoorW.PrintWords Go.Proofs.YtgpkeclojbcgoaaGreatDoorW.PrintLast Go.Proofs.YtgpkeclojbcgoaaGreatDoorW.PrintMore
attribute [local go_sem] max2_int min2_int max_two min_two max_three min_three max_four min_four   -- for this text's walks alone
set_option linter.unusedVariables false
set_option linter.unusedSimpArgs false

/-! ### spec_l1Cur_itemPlace: function 51 -/

def spec_l1Cur_itemPlace.f (s0_0 : List Int) (s0_1 : Int) (s0_2 : Int) : Option (Int × List Int × Int × Int) := (spec_l1Cur_pick.f s0_0 s0_1 s0_2 6).bind fun bt656 => ((spec_l1Cur_among.f bt656.2.1 bt656.2.2.1 bt656.2.2.2 (([20, (-1), 21] : List Int))).bind fun bt663 => ((spec_l1Cur_among.f bt663.2.1 bt663.2.2.1 bt663.2.2.2 (([0, 1, 2, bt656.1, bt663.1] : List Int))).bind fun bt670 => (some (bt670.1, bt670.2.1, bt670.2.2.1, bt670.2.2.2))))

def spec_l1Cur_itemPlace.e (k : Nat) : Refl.Ent G := ⟨51, [(.wr 1000000 66 gL0)], .one (.c li), fun x => spec_l1Cur_itemPlace.f x.1 x.2.1 x.2.2⟩
theorem spec_l1Cur_itemPlace.ok (k : Nat) : Refl.EntOK Tryz.prog (spec_l1Cur_itemPlace.e k) := Refl.ent_ok 1000000 k GC (fun k => [spec_l1Cur_pick.e k, spec_l1Cur_among.e k]) (fun k => ⟨spec_l1Cur_pick.ok k, spec_l1Cur_among.ok k, trivial⟩) Tryz.func51 (by kernel_rfl) [] (ps := []) (by kernel_rfl) trivial (fun x => by kernel_rfl)

/-! ### spec_DrawDeleteItem: function 11 -/

def spec_DrawDeleteItem.f (k : Nat) (l0 : List Int) : Option (List ByteArray × (List (S25)) × (List (S25)) × Int) := (spec_l1Cur_desk.f k l0 0 0).bind fun bt676 => ((spec_l1Cur_itemPlace.f bt676.2.2.2.1 bt676.2.2.2.2.1 bt676.2.2.2.2.2).bind fun bt688 => (some (bt676.1, bt676.2.1, bt676.2.2.1, bt688.1)))

theorem spec_DrawDeleteItem.mono : ∀ a0 k, LeO (spec_DrawDeleteItem.f k a0) (spec_DrawDeleteItem.f (k + 1) a0) := by
  intro a0 k
  unfold spec_DrawDeleteItem.f
  repeat' first
      | (with_reducible exact spec_l1Cur_desk.mono _ _ _ _)
      | (with_reducible exact LeO.refl _)
      | (with_reducible exact LeO.none _)
      | (with_reducible refine LeO.ite ?_ ?_)
      | (with_reducible refine LeO.bind ?_ (fun _ => ?_))
      | exact spec_l1Cur_desk.mono _ _ _ _
      | exact LeO.none _
      | refine LeO.ite ?_ ?_
      | refine LeO.bind ?_ (fun _ => ?_)

def spec_DrawDeleteItem.e (k : Nat) : Refl.Ent G := ⟨11, [(.c (.row 5 false))], .tup [(.agg gL4), (.c li)], fun x => spec_DrawDeleteItem.f k x⟩
theorem spec_DrawDeleteItem.ok (k : Nat) : Refl.EntOK Tryz.prog (spec_DrawDeleteItem.e k) := Refl.ent_ok 1000000 k GC (fun k => [spec_l1Cur_desk.e k, spec_l1Cur_itemPlace.e k]) (fun k => ⟨spec_l1Cur_desk.ok k, spec_l1Cur_itemPlace.ok k, trivial⟩) Tryz.func11 (by kernel_rfl) [] (ps := []) (by kernel_rfl) trivial (fun x => by kernel_rfl)

/-! ### slices_Clone_string_string: function 75 -/

def slices_Clone_string_string.f (l0 : List ByteArray) : Option (List ByteArray) := if l0.length < 8796093022208 then some l0 else none
theorem slices_Clone_string_string.info : (Tryz.prog.info? 9).map (fun i => (i.zero, i.size, i.bytes)) = some (some (.string ⟨#[]⟩), 1, 16) := by kernel_rfl
set_option maxHeartbeats 4000000 in
set_option maxRecDepth 100000 in
theorem slices_Clone_string_string.calls (A0 : Option Addr) (c0 : Nat) (l0 : List ByteArray) (r : List ByteArray) (w : World) (hr0 : Kd.C Kd.string w A0 l0.length l0) (hc0 : l0.length ≤ c0) (h : slices_Clone_string_string.f l0 = some r) :
    Calls Tryz.prog 75 #[.slice A0 l0.length c0] w fun e w' => ∃ v0_ : Value, e = .returned (v0_) ∧ Kd.R Kd.string 9 w' w.heap.size (fun _ => True) v0_ r ∧ Below w.heap.size w w' := by
  have HB := Aside0.mk (Below.refl w.heap.size w)
  have hq := fun (W : World) a n c => Lib.run_eql_slice_nil (P := Tryz.prog) W 31 9 a n c 0 0 Tryz.underlying31
  unfold slices_Clone_string_string.f at h
  split at h
  · rename_i hl
    obtain rfl := Option.some.inj h
    cases A0 with
    | none =>
      have hz : l0 = [] := by
        rcases Nat.eq_zero_or_pos l0.length with h0 | h0
        · exact List.eq_nil_of_length_eq_zero h0
        · obtain ⟨ad, e, _⟩ := hr0.2.2 h0; cases e
      subst hz
      clear hr0 hc0 hl
      go_enter Tryz.func75, Tryz.ntmps75
      go_wp2
      go_ret
      exact ⟨_, rfl, Kd.R_nil _ _ _ _ _, HB.out⟩
    | some ad =>
      have HR0 := Aside0.mk hr0
      have LM := Aside0.mk hl
      clear hr0 hc0 hl
      go_enter Tryz.func75, Tryz.ntmps75
      go_wp2_with (first | ((with_reducible refine gate_dst (N := 5) rfl ?_); refine Kd.R_lit Kd.string _ 9 ?hg (N := 5) ?hd (xs := ([] : List ByteArray)) (inner := []) (ok := fun _ => True) (okp := fun _ => True) ?hr ?hp (fun _ hk => hk) trivial (Below.refl _ _) (Nat.le_refl _) (by simp) ?_; (case hd => rfl); (case hg => rfl); (case hr => first | (go_simp; done) | (go_simp; rfl)); (case hp => exact (Reps.none _ _)); intro v1 w4 ho5 hb hg_ hnew_; clear hg_ hnew_; have n0_ := Aside0.mk (Kd.R_lower ho5 (below_size (by repeat (first | (with_reducible first | exact HB.out | apply below_alloc | apply pw_below_drewN | apply below_drew1) | exact HB.out)))); have n1_ := Aside0.mk (below_step (by repeat (first | (with_reducible first | exact HB.out | apply below_alloc | apply pw_below_drewN | apply below_drew1) | exact HB.out)) hb); clear HB; have HO := n0_; have HB := n1_; clear n0_ n1_; clear hb ho5) | ((with_reducible refine gate_builtin (b := .append) (xs := #[.tmp 5, .tmp 6]) rfl ?_); at_builtin; refine Kd.R_append_rows Kd.string (w0 := w) w.heap.size rfl (.tmp 5) (.tmp 6) 31 9 (.string ⟨#[]⟩) 16 rfl Tryz.underlying31 slices_Clone_string_string.info rfl (by decide) (by omega) v1 [] l0 _ _ _ (fun _ => True) (fun _ => False) rfl rfl ?aO ?aR (fun _ _ h => h) (fun _ h => h.elim) ?aF ?aB ?aS ?aL ?_; (case aR => repeat (first | exact (Kd.C_below HR0.out HB.out) | (with_reducible refine Kd.C_alloc ?_ _) | (with_reducible refine Kd.C_drewN ?_ _) | (with_reducible refine Kd.C_drew ?_))); (case aB => exact (by repeat (first | (with_reducible first | exact HB.out | apply below_alloc | apply pw_below_drewN | apply below_drew1) | exact HB.out))); (case aF => exact (fun _ _ => trivial)); (case aO => exact (by (with_reducible repeat (first | apply Kd.R_alloc | apply Kd.R_drewN | apply Kd.R_drew)); exact HO.out)); (case aS => exact (below_size (by repeat (first | (with_reducible first | exact HB.out | apply below_alloc | apply pw_below_drewN | apply below_drew1) | exact HB.out)))); (case aL => have := LM.out; simp; omega); intro v2 w6 ho hb hg hat; have n0_ := Aside0.mk (hb); have n1_ := Aside0.mk (ho); clear HB; clear HO; have HB := n0_; have HO := n1_; clear n0_ n1_; clear ho hb hg hat))
      go_ret
      exact ⟨_, rfl, by (with_reducible repeat (first | apply Kd.R_alloc | apply Kd.R_drewN | apply Kd.R_drew)); exact HO.out, (by repeat (first | (with_reducible first | exact HB.out | apply below_alloc | apply pw_below_drewN | apply below_drew1) | exact HB.out))⟩
  · cases h

def slices_Clone_string_string.e (k : Nat) : Refl.Ent G := ⟨75, [(.c (.row 9 false))], .one (.c (.row 9 true)), fun x => slices_Clone_string_string.f x⟩
theorem slices_Clone_string_string.ok (k : Nat) : Refl.EntOK Tryz.prog (slices_Clone_string_string.e k) := Refl.entOK_new Tryz.func75 (by kernel_rfl) (fun x y h S w vals hv => by
  cases vals with
  | nil => exact hv.elim
  | cons y0 vals =>
    cases vals with
    | cons _ _ => exact hv.2.elim
    | nil =>
      obtain ⟨A, c, rfl, hc, hC⟩ := c_of Kd.string rkStr (fun _ _ => rfl) rfl hv.1
      refine (slices_Clone_string_string.calls A c x y w hC hc h).mono ?_
      rintro en w' ⟨v, rfl, hR, hb⟩
      obtain ⟨μ, m1, m2, m3⟩ := Refl.newRow_rep (Γ := G) (q := 9) (S := S) (new_of Kd.string rkStr (fun _ _ _ _ _ h => h) rfl hR)
      exact ⟨μ, [.f (.c (.row 9 y (.tok 0 0)))], [v], [.row 9 y (.tok 0 0)], rfl, hb, m1, m2, ⟨m3, trivial⟩, by kernel_rfl, by kernel_rfl, by kernel_rfl⟩)

/-! ### impl_DeskEdit_69: function 69 -/

def impl_DeskEdit_69.f (l0 : List S25) : Option (List S25) := if l0.length < 2932031007402 then some l0 else none
theorem impl_DeskEdit_69.info : (Tryz.prog.info? 25).map (fun i => (i.zero, i.size, i.bytes)) = some (some (.agg #[(.int .i64 0), (.int .i64 0), (.string ⟨#[]⟩), (.string ⟨#[]⟩)]), 4, 48) := by kernel_rfl
set_option maxHeartbeats 4000000 in
set_option maxRecDepth 100000 in
theorem impl_DeskEdit_69.calls (A0 : Option Addr) (c0 : Nat) (l0 : List S25) (r : List S25) (w : World) (hr0 : Kd.C k25 w A0 l0.length l0) (hc0 : l0.length ≤ c0) (h : impl_DeskEdit_69.f l0 = some r) :
    Calls Tryz.prog 69 #[.slice A0 l0.length c0] w fun e w' => ∃ v0_ : Value, e = .returned (v0_) ∧ Kd.R k25 25 w' w.heap.size (fun _ => True) v0_ r ∧ Below w.heap.size w w' := by
  have HB := Aside0.mk (Below.refl w.heap.size w)
  have hq := fun (W : World) a n c => Lib.run_eql_slice_nil (P := Tryz.prog) W 32 25 a n c 0 0 Tryz.underlying32
  unfold impl_DeskEdit_69.f at h
  split at h
  · rename_i hl
    obtain rfl := Option.some.inj h
    cases A0 with
    | none =>
      have hz : l0 = [] := by
        rcases Nat.eq_zero_or_pos l0.length with h0 | h0
        · exact List.eq_nil_of_length_eq_zero h0
        · obtain ⟨ad, e, _⟩ := hr0.2.2 h0; cases e
      subst hz
      clear hr0 hc0 hl
      go_enter Tryz.func69, Tryz.ntmps69
      go_wp2
      go_ret
      exact ⟨_, rfl, Kd.R_nil _ _ _ _ _, HB.out⟩
    | some ad =>
      have HR0 := Aside0.mk hr0
      have LM := Aside0.mk hl
      clear hr0 hc0 hl
      go_enter Tryz.func69, Tryz.ntmps69
      go_wp2_with (first | ((with_reducible refine gate_dst (N := 5) rfl ?_); refine Kd.R_lit k25 _ 25 ?hg (N := 5) ?hd (xs := ([] : List S25)) (inner := []) (ok := fun _ => True) (okp := fun _ => True) ?hr ?hp (fun _ hk => hk) trivial (Below.refl _ _) (Nat.le_refl _) (by simp) ?_; (case hd => rfl); (case hg => rfl); (case hr => first | (go_simp; done) | (go_simp; rfl)); (case hp => exact (Reps.none _ _)); intro v1 w4 ho5 hb hg_ hnew_; clear hg_ hnew_; have n0_ := Aside0.mk (Kd.R_lower ho5 (below_size (by repeat (first | (with_reducible first | exact HB.out | apply below_alloc | apply pw_below_drewN | apply below_drew1) | exact HB.out)))); have n1_ := Aside0.mk (below_step (by repeat (first | (with_reducible first | exact HB.out | apply below_alloc | apply pw_below_drewN | apply below_drew1) | exact HB.out)) hb); clear HB; have HO := n0_; have HB := n1_; clear n0_ n1_; clear hb ho5) | ((with_reducible refine gate_builtin (b := .append) (xs := #[.tmp 5, .tmp 6]) rfl ?_); at_builtin; refine Kd.R_append_rows k25 (w0 := w) w.heap.size rfl (.tmp 5) (.tmp 6) 32 25 (.agg #[(.int .i64 0), (.int .i64 0), (.string ⟨#[]⟩), (.string ⟨#[]⟩)]) 48 rfl Tryz.underlying32 impl_DeskEdit_69.info rfl (by decide) (by omega) v1 [] l0 _ _ _ (fun _ => True) (fun _ => False) rfl rfl ?aO ?aR (fun _ _ h => h) (fun _ h => h.elim) ?aF ?aB ?aS ?aL ?_; (case aR => repeat (first | exact (Kd.C_below HR0.out HB.out) | (with_reducible refine Kd.C_alloc ?_ _) | (with_reducible refine Kd.C_drewN ?_ _) | (with_reducible refine Kd.C_drew ?_))); (case aB => exact (by repeat (first | (with_reducible first | exact HB.out | apply below_alloc | apply pw_below_drewN | apply below_drew1) | exact HB.out))); (case aF => exact (fun _ _ => trivial)); (case aO => exact (by (with_reducible repeat (first | apply Kd.R_alloc | apply Kd.R_drewN | apply Kd.R_drew)); exact HO.out)); (case aS => exact (below_size (by repeat (first | (with_reducible first | exact HB.out | apply below_alloc | apply pw_below_drewN | apply below_drew1) | exact HB.out)))); (case aL => have := LM.out; simp; omega); intro v2 w6 ho hb hg hat; have n0_ := Aside0.mk (hb); have n1_ := Aside0.mk (ho); clear HB; clear HO; have HB := n0_; have HO := n1_; clear n0_ n1_; clear ho hb hg hat))
      go_ret
      exact ⟨_, rfl, by (with_reducible repeat (first | apply Kd.R_alloc | apply Kd.R_drewN | apply Kd.R_drew)); exact HO.out, (by repeat (first | (with_reducible first | exact HB.out | apply below_alloc | apply pw_below_drewN | apply below_drew1) | exact HB.out))⟩
  · cases h

def impl_DeskEdit_69.e (k : Nat) : Refl.Ent G := ⟨69, [(.c (.row 25 false))], .one (.c (.row 25 true)), fun x => impl_DeskEdit_69.f x⟩
theorem impl_DeskEdit_69.ok (k : Nat) : Refl.EntOK Tryz.prog (impl_DeskEdit_69.e k) := Refl.entOK_new Tryz.func69 (by kernel_rfl) (fun x y h S w vals hv => by
  cases vals with
  | nil => exact hv.elim
  | cons y0 vals =>
    cases vals with
    | cons _ _ => exact hv.2.elim
    | nil =>
      obtain ⟨A, c, rfl, hc, hC⟩ := c_of k25 rk25 (fun _ _ => k25_mk _ _) rfl hv.1
      refine (impl_DeskEdit_69.calls A c x y w hC hc h).mono ?_
      rintro en w' ⟨v, rfl, hR, hb⟩
      obtain ⟨μ, m1, m2, m3⟩ := Refl.newRow_rep (Γ := G) (q := 25) (S := S) (new_of k25 rk25 (fun _ _ _ _ _ h => k25_openM h) rfl hR)
      exact ⟨μ, [.f (.c (.row 25 y (.tok 0 0)))], [v], [.row 25 y (.tok 0 0)], rfl, hb, m1, m2, ⟨m3, trivial⟩, by kernel_rfl, by kernel_rfl, by kernel_rfl⟩)

/-! ### impl_areItems: function 60 -/

def ai1.f (k : Nat) (a0 : ByteArray) : Option Bool := (impl_IsGloss.f k a0).bind fun t => some (!t)

def ai2.l0 : Nat → List ByteArray → Int → Int → Option Int
  | 0, _, _, _ => none
  | k + 1, l, n, i => if i < n then (if 0 ≤ i then (if i < (l.length : Int) then ((ai1.f k (rdOf ByteArray.empty l i)).bind fun t => if t = true then (some i) else (ai2.l0 k l n (wrap64 (i + 1)))) else (none)) else (none)) else (some (-1))

def ai2.f (k : Nat) (l : List ByteArray) : Option Int := ai2.l0 k l (l.length : Int) 0

def ai3.f (k : Nat) (l : List ByteArray) : Option Bool := (ai2.f k l).bind fun t => some (decide (t ≥ 0))

def ai4.f (k : Nat) (l : List ByteArray) : Option Bool := (ai3.f k l).bind fun t => some (!t)

def impl_areItems.f (k : Nat) (l0 : List ByteArray) : Option Bool := if (l0.length : Int) ≤ 20 then ((ai4.f k l0).bind fun t => some t) else (some false)

theorem ai1.mono : ∀ a0 k, LeO (ai1.f k a0) (ai1.f (k + 1) a0) := by
  intro a0 k
  unfold ai1.f
  exact LeO.bind (impl_IsGloss.mono _ _) (fun _ => LeO.refl _)

theorem ai2.mono_l : ∀ k l n i, LeO (ai2.l0 k l n i) (ai2.l0 (k + 1) l n i)
  | 0 => fun _ _ _ r h => by simp [ai2.l0] at h
  | k + 1 => by
    have ih := ai2.mono_l k
    intro l n i
    unfold ai2.l0
    repeat' first
    | (with_reducible exact ih _ _ _)
    | (with_reducible exact ai1.mono _ _)
    | exact LeO.refl _
    | exact LeO.none _
    | refine LeO.ite ?_ ?_
    | refine LeO.bind ?_ (fun _ => ?_)

theorem ai2.mono : ∀ l k, LeO (ai2.f k l) (ai2.f (k + 1) l) := fun l k => ai2.mono_l k _ _ _

theorem ai3.mono : ∀ l k, LeO (ai3.f k l) (ai3.f (k + 1) l) := fun l k => LeO.bind (ai2.mono _ _) (fun _ => LeO.refl _)

theorem ai4.mono : ∀ l k, LeO (ai4.f k l) (ai4.f (k + 1) l) := fun l k => LeO.bind (ai3.mono _ _) (fun _ => LeO.refl _)

theorem impl_areItems.mono : ∀ l0 k, LeO (impl_areItems.f k l0) (impl_areItems.f (k + 1) l0) := fun l0 k => LeO.ite (LeO.bind (ai4.mono _ _) (fun _ => LeO.refl _)) (LeO.refl _)

def impl_areItems.e (k : Nat) : Refl.Ent G := ⟨60, [(.c (.row 9 false))], .one (.c .bool), fun x => impl_areItems.f k x⟩
def ai1.e (k : Nat) : Refl.Ent G := ⟨121, [.c .str, .ref [.fn 96]], .one (.c .bool), fun x => ai1.f k x.1⟩
theorem ai1.ok (k : Nat) : Refl.EntOK Tryz.prog (ai1.e k) := Refl.ent_ok 1000000 k GC (fun k => [impl_IsGloss.e k]) (fun k => ⟨impl_IsGloss.ok k, trivial⟩) Tryz.func121 (by kernel_rfl) [] (ps := []) (by kernel_rfl) trivial (fun x => by kernel_rfl)
def ai2.e (k : Nat) : Refl.Ent G := ⟨140, [.c (.row 9 false), .clo 121 [[.fn 96]]], .one (.c li), fun x => ai2.f k x.1⟩
def ai2.p : Refl.Pn G (Refl.PT G (ai2.e 0).ol) := ⟨true, 0, ⟨[(0, .v (.c (.row 9 false))), (1, .v (.clo 121 [[.fn 96]])), (7, .v (.c li)), (8, .v (.c li)), (4, .k (.int .i64 0))], []⟩, fun k x => ai2.l0 k x.1 x.2.2.1 x.2.2.2⟩
theorem ai2.ok (k : Nat) : Refl.EntOK Tryz.prog (ai2.e k) := Refl.ent_ok 1000000 k GC (fun k => [ai1.e k]) (fun k => ⟨ai1.ok k, trivial⟩) Tryz.func140 (by kernel_rfl) [ai2.p] (ps := [ai2.p]) (by kernel_rfl) ⟨⟨fun x => by kernel_rfl, fun k x => by kernel_rfl⟩, trivial⟩ (fun x => by kernel_rfl)
def ai3.e (k : Nat) : Refl.Ent G := ⟨120, [.c (.row 9 false), .clo 121 [[.fn 96]]], .one (.c .bool), fun x => ai3.f k x.1⟩
theorem ai3.ok (k : Nat) : Refl.EntOK Tryz.prog (ai3.e k) := Refl.ent_ok 1000000 k GC (fun k => [ai2.e k]) (fun k => ⟨ai2.ok k, trivial⟩) Tryz.func120 (by kernel_rfl) [] (ps := []) (by kernel_rfl) trivial (fun x => by kernel_rfl)
def ai4.e (k : Nat) : Refl.Ent G := ⟨102, [.c (.row 9 false), .clo 96 []], .one (.c .bool), fun x => ai4.f k x⟩
theorem ai4.ok (k : Nat) : Refl.EntOK Tryz.prog (ai4.e k) := Refl.ent_ok 1000000 k GC (fun k => [ai3.e k]) (fun k => ⟨ai3.ok k, trivial⟩) Tryz.func102 (by kernel_rfl) [] (ps := []) (by kernel_rfl) trivial (fun x => by kernel_rfl)
theorem impl_areItems.ok (k : Nat) : Refl.EntOK Tryz.prog (impl_areItems.e k) := Refl.ent_ok 1000000 k GC (fun k => [ai4.e k]) (fun k => ⟨ai4.ok k, trivial⟩) Tryz.func60 (by kernel_rfl) [] (ps := []) (by kernel_rfl) trivial (fun x => by kernel_rfl)

/-! ### impl_itemAt: function 54 -/

-- JOINS  | BOXES 
def impl_itemAt.f (l0 : List ByteArray) (a1 : Int) : Option (ByteArray) := (impl_within.f a1 0 (wrap64 ((l0.length : Int) - 1))).bind fun t692 => (if t692 = true then (if 0 ≤ a1 then (if a1 < (l0.length : Int) then (some (rdOf ByteArray.empty l0 a1)) else (none)) else (none)) else (some (⟨#[]⟩ : ByteArray)))
set_option maxHeartbeats 8000000 in
set_option maxRecDepth 100000 in
theorem impl_itemAt.calls (A0 : Option Addr) (c0 : Nat) (l0 : List ByteArray) (a1 : Int) (r : ByteArray) (w : World) (hr0 : Kd.C Kd.string w A0 l0.length l0) (hc0 : l0.length ≤ c0) (h : impl_itemAt.f l0 a1 = some r) :
    Calls Tryz.prog 54 #[.slice A0 l0.length c0, .int .i64 a1] w fun e w' => e = .returned (.string r) ∧ Drawn0 w w' := by
  have HR0 := Aside0.mk hr0
  have HC0 := Aside0.mk hc0
  clear hr0 hc0
  have H : ((impl_within.f a1 0 (wrap64 ((l0.length : Int) - 1))).bind fun t692 => (if t692 = true then (if 0 ≤ a1 then (if a1 < (l0.length : Int) then (some (rdOf ByteArray.empty l0 a1)) else (none)) else (none)) else (some (⟨#[]⟩ : ByteArray)))) = some r := h
  clear h
  replace H := Option.bind_eq_some_iff.mp H
  obtain ⟨t692, A30, H⟩ := H
  replace H : (if t692 = true then (if 0 ≤ a1 then (if a1 < (l0.length : Int) then (some (rdOf ByteArray.empty l0 a1)) else (none)) else (none)) else (some (⟨#[]⟩ : ByteArray))) = some r := H
  have A3 := Aside0.mk A30
  clear A30
  by_cases c4 : t692 = true
  · subst c4
    have H1 : (if 0 ≤ a1 then (if a1 < (l0.length : Int) then (some (rdOf ByteArray.empty l0 a1)) else (none)) else (none)) = some r := by rw [if_pos rfl] at H; exact H
    clear H
    have H := H1
    clear H1
    by_cases c5 : 0 ≤ a1
    · rw [if_pos c5] at H
      have c5b0 : decide (0 ≤ a1) = true := decide_eq_true c5
      clear c5
      by_cases c6 : a1 < (l0.length : Int)
      · rw [if_pos c6] at H
        have c6b0 : decide (a1 < (l0.length : Int)) = true := decide_eq_true c6
        clear c6
        obtain rfl := Option.some.inj H
        go_enter Tryz.func54, Tryz.ntmps54
        go_wp2_with (first | ((with_reducible refine gate_callee (f := 68) rfl ?_); refine goesL_ (some 9) rfl rfl Tryz.func68 (by kernel_rfl) rfl #[.int .i64 a1, .int .i64 0, .int .i64 (wrap64 ((l0.length : Int) - 1))] rfl (by (try simp only [List.map_toArray, List.map_cons, List.map_nil]); first | done | rfl | (simp only [List.length_drop, List.length_take]; rfl)) ?_; (with_reducible refine (impl_within.calls a1 0 (wrap64 ((l0.length : Int) - 1)) true _ A3.out).mono ?_); rintro e w' ⟨rfl, ⟨nd, rfl⟩⟩; refine ⟨_, rfl, ?_⟩; have p693 : 0 ≤ (a1 : Int) := of_decide_eq_true (by first | (with_reducible assumption) | assumption); have q693 : a1 < (l0.length : Int) := of_decide_eq_true (by first | (with_reducible assumption) | assumption); obtain ⟨ad693, e693, hx693_0⟩ := Kd.at_string HR0.out a1 p693 q693; cases e693; replace p693 := eq_true p693; replace q693 := eq_true q693))
        go_ret
        exact ⟨by first | rfl | (simp; done) | (simp [*]; done), by repeat (first | exact Drawn0.refl _ | apply Drawn0.step)⟩
      · rw [if_neg c6] at H
        exact absurd H (by simp)
    · rw [if_neg c5] at H
      exact absurd H (by simp)
  · replace c4 := Bool.eq_false_iff.mpr c4
    subst c4
    have H1 : (some (⟨#[]⟩ : ByteArray)) = some r := by rw [if_neg (show ¬ (false = true) by decide)] at H; exact H
    clear H
    have H := H1
    clear H1
    obtain rfl := Option.some.inj H
    go_enter Tryz.func54, Tryz.ntmps54
    go_wp2_with (first | ((with_reducible refine gate_callee (f := 68) rfl ?_); refine goesL_ (some 9) rfl rfl Tryz.func68 (by kernel_rfl) rfl #[.int .i64 a1, .int .i64 0, .int .i64 (wrap64 ((l0.length : Int) - 1))] rfl (by (try simp only [List.map_toArray, List.map_cons, List.map_nil]); first | done | rfl | (simp only [List.length_drop, List.length_take]; rfl)) ?_; (with_reducible refine (impl_within.calls a1 0 (wrap64 ((l0.length : Int) - 1)) false _ A3.out).mono ?_); rintro e w' ⟨rfl, ⟨nd, rfl⟩⟩; refine ⟨_, rfl, ?_⟩))
    go_ret
    exact ⟨by first | rfl | (simp; done) | (simp [*]; done), by repeat (first | exact Drawn0.refl _ | apply Drawn0.step)⟩

def impl_itemAt.e (k : Nat) : Refl.Ent G := ⟨54, [(.c (.row 9 false)), (.c li)], .one (.c .str), fun x => impl_itemAt.f x.1 x.2⟩
theorem impl_itemAt.ok (k : Nat) : Refl.EntOK Tryz.prog (impl_itemAt.e k) := Refl.ent_ok 1000000 k GC (fun k => [impl_within.e k]) (fun k => ⟨impl_within.ok k, trivial⟩) Tryz.func54 (by kernel_rfl) [] (ps := []) (by kernel_rfl) trivial (fun x => by kernel_rfl)

/-! ### impl_made: function 61 -/

def insRen : Go.Shelf.Ren := ⟨fun | 22 => 103 | 17 => 162 | 29 => 122 | 30 => 123 | 36 => 141 | n => n, fun | 24 => 31 | 9 => 9 | 3 => 3 | 4 => 4 | 0 => 0 | n => n, fun | n => n⟩
theorem insLays : Go.Proofs.Lays2.n22 Tryz.prog insRen := {
  mixed := by kernel_rfl
  f17 := Tryz.func162.trans (congrArg some (by kernel_rfl))
  f22 := Tryz.func103.trans (congrArg some (by kernel_rfl))
  f29 := Tryz.func122.trans (congrArg some (by kernel_rfl))
  f30 := Tryz.func123.trans (congrArg some (by kernel_rfl))
  f36 := Tryz.func141.trans (congrArg some (by kernel_rfl))
  t0 := Tryz.underlying0
  a0 := Tryz.isAgg0
  z0 := Tryz.sizeOf0
  v0 := Tryz.zeroValue0
  t3 := Tryz.underlying3
  a3 := Tryz.isAgg3
  z3 := Tryz.sizeOf3
  v3 := Tryz.zeroValue3
  t4 := Tryz.underlying4
  a4 := Tryz.isAgg4
  z4 := Tryz.sizeOf4
  v4 := Tryz.zeroValue4
  t9 := Tryz.underlying9
  a9 := Tryz.isAgg9
  z9 := Tryz.sizeOf9
  v9 := Tryz.zeroValue9
  t24 := Tryz.underlying31
  a24 := Tryz.isAgg31
  z24 := Tryz.sizeOf31
  v24 := Tryz.zeroValue31
  i9 := by kernel_rfl }
theorem below_cells {a : World} (b : Nat) (hb : a.heap.size ≤ b) : ∀ (vs : List Value) (o : Nat) {w : World}, Below a.heap.size a w → Below a.heap.size a (w.setCells b o vs)
  | [], _, _, h => h
  | v :: r, o, _, h => below_cells b hb r (o + 1) (below_set h hb)
theorem strR_made {w : World} {base g cap : Nat} {cur : Array Value} {ys : List ByteArray} (hh : w.heap[g]? = some (.cells cur 9 (0, 0))) (hb : base ≤ g) (hn : ys.length ≤ cap) (hc : cap ≤ maxLen) (hs : cur.size = cap) (ht : cur.toList.take ys.length = ys.map Value.string) :
    Kd.R Kd.string 9 w base (fun _ => True) (.slice (some ⟨g, 0, none⟩) ys.length cap) ys := by
  refine Kd.R_of_own ⟨by rw [encs_length, Nat.mul_one], .inr ⟨g, cap, cur, rfl, hb, hh, hn, hc, by rw [hs, Nat.mul_one], by rw [Nat.mul_one]; exact ht⟩⟩ (fun _ _ => trivial)
theorem zero_size (n : Nat) : (Builtin.zeroCells (Value.string ⟨#[]⟩).cells n).size = n := by
  unfold Builtin.zeroCells; simp [Value.cells]
theorem grown_ok (w : World) (n c : Nat) (e : TypeId) (h : n ≤ 2000000) : n ≤ grownCap w n c e ∧ grownCap w n c e ≤ maxLen := ⟨grownCap_ge _ _ _ _, grownCap_le_maxLen _ _ _ _ (by unfold maxLen; omega)⟩
/-- slices.Insert of one text into a row of one's own. -/
theorem insR {W0 w : World} {v : Value} {xs : List ByteArray} (i : Nat) (s : ByteArray) (vb vc : Nat) (HO : Kd.R Kd.string 9 w W0.heap.size (fun _ => True) v xs) (HB : Below W0.heap.size W0 w)
    (hi : i ≤ xs.length) (hs : xs.length ≤ 1000000) (hv : w.heap[vb]? = some (.cells #[.string s] 9 (0, 0))) (hne : some vb ≠ v.ownBlock) :
    Calls Tryz.prog 103 #[v, .int .i64 (i : Int), .slice (some ⟨vb, 0, none⟩) 1 vc] w fun e w' => ∃ v', e = .returned v' ∧ Kd.R Kd.string 9 w' W0.heap.size (fun _ => True) v' (xs.take i ++ s :: xs.drop i) ∧ Below W0.heap.size W0 w' := by
  have hbase : W0.heap.size ≤ w.heap.size := HB.size
  have hvs : ∀ j u, ([Value.string s] : List Value)[j]? = some u → w.cell? ⟨vb, 0 + j, none⟩ = some u := by
    intro j u hj
    rw [Nat.zero_add, blk_cell hv j]
    cases j with
    | zero => simpa using hj
    | succ j => simp at hj
  have h1v : ∀ u ∈ ([Value.string s] : List Value), u.oneCell' = true := by simp [Value.oneCell']
  have h1c : ∀ u ∈ xs.map Value.string, u.oneCell' = true := by simp [Value.oneCell']
  have hlen : (xs.take i ++ s :: xs.drop i).length = xs.length + 1 := by simp; omega
  rcases (Kd.own_of_R HO).2 with ⟨hv0, hn0⟩ | ⟨g, cap, cur, hv0, hb, hh, hle, hcm, hcs, htake⟩
  · have hx : xs = [] := List.eq_nil_of_length_eq_zero hn0
    subst hx
    have hi0 : i = 0 := by simpa using hi
    subst hi0
    rw [hv0]
    refine (Any2.slices_Insert_string_end_grow insLays none 0 0 vb 0 1 vc [] [.string s] w (by omega) (by omega) (by omega) (by omega) rfl rfl (fun _ => rfl) (fun a h => by cases h) hvs h1v).mono ?_
    rintro e w' ⟨rfl, rfl⟩
    have hg := grown_ok w (0 + 1) 0 (insRen.t 9) (by omega)
    obtain ⟨G, hG⟩ : ∃ G, G = grownCap w (0 + 1) 0 (insRen.t 9) := ⟨_, rfl⟩
    rw [← hG] at hg ⊢
    refine ⟨_, rfl, ?_, below_alloc (below_drew1 HB) _⟩
    exact strR_made (cap := G) (ys := [s]) (heap_alloc_new w.drew (.cells (([] ++ [Value.string s]).toArray ++ Builtin.zeroCells (Value.string ⟨#[]⟩).cells (G - (0 + 1))) 9)) hbase hg.1 hg.2 (by simp [zero_size]; omega) (by simp)
  · have hcs' : cur.size = cap := by rw [hcs, Nat.mul_one]
    have ht' : cur.toList.take xs.length = xs.map Value.string := by rw [Nat.mul_one] at htake; exact htake
    subst hv0
    have hvg : vb ≠ g := fun e => hne (by rw [e]; rfl)
    have hcl : (xs.map Value.string).length = xs.length := List.length_map _
    have hC : cur.toList.length = cap := by rw [Array.length_toList, hcs']
    have hcell : ∀ j u, (xs.map Value.string)[j]? = some u → w.cell? ⟨g, 0 + j, none⟩ = some u := by
      intro j u hj
      rw [Nat.zero_add, blk_cell hh j]
      rw [← ht', List.getElem?_take] at hj
      split at hj
      · rw [← hj, Array.getElem?_toList]
      · cases hj
    by_cases hin : i < xs.length
    · by_cases hroom : xs.length + 1 ≤ cap
      · refine (Any2.slices_Insert_string_shift insLays g 0 xs.length cap i vb 0 1 vc (xs.map Value.string) [.string s] w hin (by omega) hroom (by unfold maxLen at hcm; omega) hvg hcl rfl hcell (fun j hj => ?_) (fun j hj => blk_frozen hh _) hvs h1c h1v 9 9 1 cap (by simp [World.shape?, hv]) (by simp [World.shape?, hh, hcs']) (by omega) (blk_frozen hv _) (blk_frozen hv _)).mono ?_
        · rw [blk_cell hh, Array.getElem?_eq_getElem (by omega)]; rfl
        rintro e w' ⟨rfl, rfl⟩
        obtain ⟨cur1, h1, h2, h3⟩ := setCells_row (e := 9) ((xs.map Value.string).drop i) (0 + (i + 1)) w.drew cur hh (by simp; omega)
        obtain ⟨cur2, h4, h5, h6⟩ := setCells_row (e := 9) [.string s] (0 + i) _ cur1 h1 (by simp; omega)
        refine ⟨_, rfl, ?_, below_cells _ hb _ _ (below_cells _ hb _ _ (below_drew1 HB))⟩
        have e1 : cur1.toList.take i = (xs.map Value.string).take i := by
          rw [h3, ← ht', List.append_assoc, List.take_append_of_le_length (by simp; omega), List.take_take, List.take_take]
          congr 1; omega
        have e2 : cur1.toList.drop (i + 1) = (xs.map Value.string).drop i ++ cur.toList.drop (0 + (i + 1) + ((xs.map Value.string).drop i).length) := by
          rw [h3, List.append_assoc, List.drop_append_of_le_length (by simp; omega), List.drop_eq_nil_of_le (by simp; omega), List.nil_append]
        have e3 : cur2.toList.take (xs.length + 1) = (xs.take i ++ s :: xs.drop i).map Value.string := by
          rw [h6, Nat.zero_add, e1, show i + [Value.string s].length = i + 1 from rfl, e2, ← List.append_assoc, List.take_append_of_le_length (by simp; omega), List.take_of_length_le (by simp; omega)]
          simp
        have := strR_made (ys := xs.take i ++ s :: xs.drop i) h4 hb (by rw [hlen]; exact hroom) hcm (by rw [h5, h2, hcs']) (by rw [hlen]; exact e3)
        rw [hlen] at this
        exact this
      · refine (Any2.slices_Insert_string_grow insLays g 0 xs.length cap i vb 0 1 vc (xs.map Value.string) [.string s] w hin (by omega) hle (by omega) (by omega) hcl rfl hcell hvs h1c h1v).mono ?_
        rintro e w' ⟨rfl, rfl⟩
        have hg := grown_ok w (xs.length + 1) cap 9 (by omega)
        obtain ⟨G, hG⟩ : ∃ G, G = grownCap w (xs.length + 1) cap 9 := ⟨_, rfl⟩
        rw [show insRen.t 9 = 9 from rfl, ← hG]
        rw [← hG] at hg
        obtain ⟨cur1, h1, h2, h3⟩ := setCells_row (e := 9) [.string s] i ((w.alloc (.cells (((xs.map Value.string).take i).toArray ++ Builtin.zeroCells (Value.string ⟨#[]⟩).cells (xs.length + 1 - i) ++ Builtin.zeroCells (Value.string ⟨#[]⟩).cells (G - (xs.length + 1))) 9)).drew) _ (heap_alloc_new _ _) (by simp [zero_size]; omega)
        obtain ⟨cur2, h4, h5, h6⟩ := setCells_row (e := 9) ((xs.map Value.string).drop i) (i + 1) (World.drew (World.setCells _ w.heap.size i [.string s])) cur1 h1 (by rw [h2]; simp [zero_size]; omega)
        refine ⟨_, rfl, ?_, below_cells _ hbase _ _ (below_drew1 (below_cells _ hbase _ _ (below_drew1 (below_alloc HB _))))⟩
        have hs1 : cur1.size = G := by rw [h2]; simp [zero_size]; omega
        have e1 : cur1.toList.take (i + 1) = (xs.map Value.string).take i ++ [.string s] := by
          rw [h3, List.take_append_of_le_length (by simp [zero_size]; omega), List.take_of_length_le (by simp [zero_size]; omega)]
          congr 1
          rw [Array.toList_append, Array.toList_append, List.append_assoc, List.take_append_of_le_length (by simp; omega), List.take_of_length_le (by simp; omega)]
        have e3 : cur2.toList.take (xs.length + 1) = (xs.take i ++ s :: xs.drop i).map Value.string := by
          rw [h6, e1, List.take_append_of_le_length (by simp; omega), List.take_of_length_le (by simp; omega)]
          simp
        have := strR_made (ys := xs.take i ++ s :: xs.drop i) h4 hbase (by rw [hlen]; exact hg.1) hg.2 (by rw [h5, hs1]) (by rw [hlen]; exact e3)
        rw [hlen] at this
        exact this
    · have hie : i = xs.length := by omega
      subst hie
      by_cases hroom : xs.length + 1 ≤ cap
      · refine (Any2.slices_Insert_string_end_room insLays g 0 xs.length cap vb 0 1 vc [.string s] w (by omega) hroom (by unfold maxLen at hcm; omega) rfl (fun j hj => ?_) (fun j hj => blk_frozen hh _) hvs h1v).mono ?_
        · rw [blk_cell hh, Array.getElem?_eq_getElem (by omega)]; rfl
        rintro e w' ⟨rfl, rfl⟩
        obtain ⟨cur1, h1, h2, h3⟩ := setCells_row (e := 9) [.string s] (0 + xs.length) w cur hh (by simp; omega)
        refine ⟨_, rfl, ?_, below_cells _ hb _ _ HB⟩
        have e3 : cur1.toList.take (xs.length + 1) = (xs.take xs.length ++ s :: xs.drop xs.length).map Value.string := by
          rw [h3, Nat.zero_add, ht', List.take_append_of_le_length (by simp), List.take_of_length_le (by simp)]
          simp
        have := strR_made (ys := xs.take xs.length ++ s :: xs.drop xs.length) h1 hb (by rw [hlen]; exact hroom) hcm (by rw [h2, hcs']) (by rw [hlen]; exact e3)
        rw [hlen] at this
        exact this
      · refine (Any2.slices_Insert_string_end_grow insLays (some ⟨g, 0, none⟩) xs.length cap vb 0 1 vc (xs.map Value.string) [.string s] w (by omega) hle (by omega) (by omega) hcl rfl (fun h => by cases h) (fun a ha j u hj => ?_) hvs h1v).mono ?_
        · cases ha
          have := hcell j u hj
          rw [Nat.zero_add] at this
          rw [add_plain]
          exact this
        rintro e w' ⟨rfl, rfl⟩
        have hg := grown_ok w (xs.length + 1) cap 9 (by omega)
        obtain ⟨G, hG⟩ : ∃ G, G = grownCap w (xs.length + 1) cap 9 := ⟨_, rfl⟩
        rw [show insRen.t 9 = 9 from rfl, ← hG]
        rw [← hG] at hg
        refine ⟨_, rfl, ?_, below_alloc (below_drew1 HB) _⟩
        have := strR_made (cap := G) (ys := xs.take xs.length ++ s :: xs.drop xs.length) (heap_alloc_new w.drew (.cells ((xs.map Value.string ++ [Value.string s]).toArray ++ Builtin.zeroCells (Value.string ⟨#[]⟩).cells (G - (xs.length + 1))) 9)) hbase (by rw [hlen]; exact hg.1) hg.2 (by simp [zero_size]; omega) (by rw [hlen, Array.toList_append, List.take_append_of_le_length (by simp), List.take_of_length_le (by simp)]; simp)
        rw [hlen] at this
        exact this
/-- slices.Delete of one text out of a row of one's own. -/
theorem delR {W0 w : World} {v : Value} {xs : List ByteArray} (i : Nat) (HO : Kd.R Kd.string 9 w W0.heap.size (fun _ => True) v xs) (HB : Below W0.heap.size W0 w) (hi : i < xs.length) :
    Calls Tryz.prog 104 #[v, .int .i64 (i : Int), .int .i64 ((i : Int) + 1)] w fun e w' => ∃ v', e = .returned v' ∧ Kd.R Kd.string 9 w' W0.heap.size (fun _ => True) v' (xs.eraseIdx i) ∧ Below W0.heap.size W0 w' := by
  have hbase : W0.heap.size ≤ w.heap.size := HB.size
  rcases (Kd.own_of_R HO).2 with ⟨hv0, hn0⟩ | ⟨g, cap, cur, hv0, hb, hh, hle, hcm, hcs, htake⟩
  · omega
  · have hcs' : cur.size = cap := by rw [hcs, Nat.mul_one]
    have ht' : cur.toList.take xs.length = xs.map Value.string := by rw [Nat.mul_one] at htake; exact htake
    subst hv0
    have hcell : ∀ j, j < xs.length → w.cell? ⟨g, 0 + j, none⟩ = some (.string (xs.getD j ⟨#[]⟩)) := by
      intro j hj
      have h1 : (cur.toList.take xs.length)[j]? = some (.string (xs.getD j ⟨#[]⟩)) := by rw [ht', List.getElem?_map]; simp [hj]
      rw [Nat.zero_add, blk_cell hh j]
      rw [List.getElem?_take, if_pos hj] at h1
      rw [← h1, Array.getElem?_toList]
    refine (Tryz.slices_Delete_string_cells g 0 xs.length cap i (i + 1) (fun j => xs.getD j ⟨#[]⟩) w hle (by unfold maxLen at hcm; omega) (by omega) (by omega) hcell (fun j _ => blk_frozen hh _)).mono ?_
    rintro e w' ⟨rfl, q, rfl⟩
    have hS : (Lib.strsOf (fun j => xs.getD j ⟨#[]⟩) xs.length).map encStr = xs.map Value.string := by
      unfold Lib.strsOf
      rw [List.map_map]
      apply List.ext_getElem?
      intro j
      rw [List.getElem?_map, List.getElem?_map]
      by_cases hj : j < xs.length
      · rw [List.getElem?_range hj]; simp [hj]
      · rw [List.getElem?_eq_none (l := List.range _) (by simp; omega), List.getElem?_eq_none (l := xs) (by omega)]; rfl
    obtain ⟨cur1, h1, h2, h3⟩ := setCells_row (e := 9) (((Lib.strsOf (fun j => xs.getD j ⟨#[]⟩) xs.length).take i ++ (Lib.strsOf (fun j => xs.getD j ⟨#[]⟩) xs.length).drop (i + 1) ++ List.replicate (i + 1 - i) []).map encStr) 0 (w.drewN q) cur hh (by simp [Lib.strsOf]; omega)
    have hel : (xs.eraseIdx i).length = xs.length - 1 := List.length_eraseIdx_of_lt hi
    refine ⟨_, rfl, ?_, below_cells _ hb _ _ (pw_below_drewN HB _)⟩
    have e3 : cur1.toList.take (xs.length - 1) = (xs.eraseIdx i).map Value.string := by
      rw [h3, List.take_zero, List.nil_append, List.map_append, List.map_append, List.map_take, List.map_drop, hS, ← List.map_take, ← List.map_drop, ← List.map_append, ← List.eraseIdx_eq_take_drop_succ, List.append_assoc, List.take_append_of_le_length (by simp [hel]), List.take_of_length_le (by simp [hel])]
    have := strR_made (ys := xs.eraseIdx i) h1 hb (by rw [hel]; omega) hcm (by rw [h2, hcs']) (by rw [hel]; exact e3)
    rw [hel] at this
    rw [show xs.length - (i + 1 - i) = xs.length - 1 by omega]
    exact this
/-- The items after edits. -/
def madeL (k : Nat) : List ByteArray → List S25 → Option (List ByteArray × Bool)
  | l, [] => some (l, true)
  | l, e :: es => (impl_isDeskEdit.f k e.f0 e.f1 e.f2 e.f3).bind fun t => if t = true then
      (if 0 ≤ e.f1 ∧ l.length ≤ 1000000 then
        (if e.f0 = 0 then (if e.f1 > (l.length : Int) then some ([], false) else if (l.length : Int) = 20 then some ([], false) else madeL k (l.take e.f1.toNat ++ e.f2 :: l.drop e.f1.toNat) es)
        else (impl_itemAt.f l e.f1).bind fun s => if (s.toList != e.f3.toList) = true then some ([], false) else
          if e.f1 < (l.length : Int) then (if e.f0 = 1 then madeL k (l.eraseIdx e.f1.toNat) es else madeL k (l.set e.f1.toNat e.f2) es) else none) else none)
      else some ([], false)
def impl_made.f (k : Nat) (l0 : List ByteArray) (l1 : List S25) : Option (List ByteArray × Bool) := if l1.length ≤ 1000000 then (slices_Clone_string_string.f l0).bind fun y => madeL k y l1 else none
theorem madeL.mono (k : Nat) : ∀ es l, LeO (madeL k l es) (madeL (k + 1) l es)
  | [], l => LeO.refl _
  | e :: es, l => by
    simp only [madeL]
    refine LeO.bind (impl_isDeskEdit.mono _ _ _ _ _) (fun t => ?_)
    refine LeO.ite (LeO.ite (LeO.ite (LeO.ite (LeO.refl _) (LeO.ite (LeO.refl _) (madeL.mono k es _))) (LeO.bind (LeO.refl _) (fun s => LeO.ite (LeO.refl _) (LeO.ite (LeO.ite (madeL.mono k es _) (madeL.mono k es _)) (LeO.refl _))))) (LeO.refl _)) (LeO.refl _)
theorem impl_made.mono : ∀ a0 a1 k, LeO (impl_made.f k a0 a1) (impl_made.f (k + 1) a0 a1) := by
  intro a0 a1 k
  unfold impl_made.f
  exact LeO.ite (LeO.bind (LeO.refl _) (fun _ => madeL.mono k _ _)) (LeO.refl _)
set_option maxHeartbeats 4000000 in
set_option maxRecDepth 100000 in
theorem impl_made.calls (k : Nat) (A0 : Option Addr) (c0 : Nat) (l0 : List ByteArray) (A1 : Option Addr) (c1 : Nat) (l1 : List S25) (r1 : List ByteArray) (r2 : Bool) (w : World) (hr0 : Kd.C Kd.string w A0 l0.length l0) (hc0 : l0.length ≤ c0) (hr1 : Kd.C k25 w A1 l1.length l1) (hc1 : l1.length ≤ c1) (h : impl_made.f k l0 l1 = some (r1, r2)) :
    Calls Tryz.prog 61 #[.slice A0 l0.length c0, .slice A1 l1.length c1] w fun e w' => ∃ v0_ : Value, e = .returned (.tuple #[v0_, .bool r2]) ∧ Kd.R Kd.string 9 w' w.heap.size (fun _ => True) v0_ r1 ∧ Below w.heap.size w w' := by
  have hu25 := Tryz.underlying25
  have huS := Tryz.underlying31
  have huL := Tryz.underlying32
  have HB := Aside0.mk (Below.refl w.heap.size w)
  unfold impl_made.f at h
  by_cases hlen1 : ¬ l1.length ≤ 1000000
  · rw [if_neg hlen1] at h; exact absurd h (by simp)
  have hlen1 : l1.length ≤ 1000000 := by omega
  rw [if_pos hlen1] at h
  obtain ⟨y, hy, hN⟩ := Option.bind_eq_some_iff.mp h
  clear h
  have h := hN
  clear hN
  have HY := Aside0.mk hy
  have HR0 := Aside0.mk hr0
  have HC0 := Aside0.mk hc0
  have HR1 := Aside0.mk hr1
  have HH := Aside0.mk h
  clear hy hr0 hc0 hr1 hc1 h
  go_enter Tryz.func61, Tryz.ntmps61
  go_wp2_with (go_at_call 75; (with_reducible refine (slices_Clone_string_string.calls _ _ l0 y _ (by repeat (first | exact (Kd.C_below HR0.out HB.out) | (with_reducible refine Kd.C_alloc ?_ _) | (with_reducible refine Kd.C_drewN ?_ _) | (with_reducible refine Kd.C_drew ?_))) HC0.out HY.out).mono ?_); rintro e wq ⟨v2, rfl, ho, hb⟩; have n0_ := Aside0.mk (below_step (by repeat (first | (with_reducible first | exact HB.out | apply below_alloc | apply pw_below_drewN | apply below_drew1) | exact HB.out)) hb); have n1_ := Aside0.mk (Kd.R_lower ho (below_size (by repeat (first | (with_reducible first | exact HB.out | apply below_alloc | apply pw_below_drewN | apply below_drew1) | exact HB.out)))); clear HB; have HB := n0_; have HO := n1_; clear n0_ n1_ hb ho)
  go_loopg [0, 12] (l1.length) (fun kq v0 v12 w' => ∃ (x : List ByteArray) (i : Nat), v12 = .int .i64 (i : Int) ∧ Aside0 (kq = l1.length - i) ∧ Aside0 (i ≤ l1.length) ∧ Aside0 (madeL k x (l1.drop i) = some (r1, r2)) ∧ Aside0 (Kd.R Kd.string 9 w' w.heap.size (fun _ => True) v0 x) ∧ Aside0 (Below w.heap.size w w'))
  case atStart => exact ⟨y, 0, rfl, ⟨rfl⟩, ⟨Nat.zero_le _⟩, HH, ⟨by (with_reducible repeat (first | apply Kd.R_alloc | apply Kd.R_drewN | apply Kd.R_drew)); exact HO.out⟩, ⟨(by repeat (first | (with_reducible first | exact HB.out | apply below_alloc | apply pw_below_drewN | apply below_drew1) | exact HB.out))⟩⟩
  case round =>
    clear HH HO
    obtain ⟨x, i, rfl, HK, HI, HM, HO, HB⟩ := hrel
    obtain ⟨Ax, cx, rfl, hcx, -⟩ := Kd.R_reads HO.out
    have HCX := Aside0.mk hcx
    clear hcx
    by_cases hlt : i < l1.length
    · have hwi : wrap64 ((i : Int) + 1) = ((i + 1 : Nat) : Int) := by unfold wrap64; omega
      have hM := HM.out
      rw [List.drop_eq_getElem_cons hlt] at hM
      simp only [madeL] at hM
      have hi0 : (0 : Int) ≤ (i : Int) := by omega
      have hi1 : (i : Int) < (l1.length : Int) := by omega
      obtain ⟨ad, eA, hx0, hx1, hx2, hx3⟩ := at_T25 (Kd.C_below HR1.out HB.out) (i : Int) hi0 hi1
      cases eA
      have e25 : rd_T25 l1 (i : Int) = l1[i] := by
        unfold rd_T25
        rw [List.getD_eq_getElem?_getD]
        simp [hlt]
      rw [e25] at hx0 hx1 hx2 hx3
      generalize l1[i] = ed at hM hx0 hx1 hx2 hx3
      obtain ⟨f0, f1, f2, f3⟩ := ed
      simp only [Int.toNat_natCast] at hM hx0 hx1 hx2 hx3
      obtain ⟨t, ht, hN⟩ := Option.bind_eq_some_iff.mp hM
      clear hM
      have hM := hN
      clear hN
      have HT := Aside0.mk ht
      clear ht e25
      cases t
      · simp only [Bool.false_eq_true, if_false, Option.some.injEq, Prod.mk.injEq] at hM
        obtain ⟨rfl, rfl⟩ := hM
        go_wp2_with (go_at_call 46; (with_reducible refine (impl_isDeskEdit.calls k f0 f1 f2 f3 false _ HT.out).mono ?_); rintro e wq ⟨rfl, hb⟩; have m0_ := Aside0.mk (blk_below (heap_alloc_new wr (.cells #[.int .i64 f0, .int .i64 f1, .string f2, .string f3] 25)) hb); have n0_ := Aside0.mk (below_step (by repeat (first | (with_reducible first | exact HB.out | apply below_alloc | apply pw_below_drewN | apply below_drew1) | exact HB.out)) hb); have n1_ := Aside0.mk (Kd.R_below (Kd.R_alloc HO.out (.cells #[.int .i64 f0, .int .i64 f1, .string f2, .string f3] 25)) hb); clear HB HO; have HB := n0_; have BK := m0_; have HO := n1_; clear n0_ m0_ n1_ hb; have hz0 : wq.cell? ⟨wr.heap.size, 0, none⟩ = some (.int .i64 f0) := (blk_cell BK.out 0).trans rfl; have hz1 : wq.cell? ⟨wr.heap.size, 1, none⟩ = some (.int .i64 f1) := (blk_cell BK.out 1).trans rfl; have hz2 : wq.cell? ⟨wr.heap.size, 2, none⟩ = some (.string f2) := (blk_cell BK.out 2).trans rfl; have hz3 : wq.cell? ⟨wr.heap.size, 3, none⟩ = some (.string f3) := (blk_cell BK.out 3).trans rfl)
        go_ret2
        exact ⟨_, by first | rfl | (simp; done), Kd.R_nil _ _ _ _ _, (by repeat (first | (with_reducible first | exact HB.out | apply below_alloc | apply pw_below_drewN | apply below_drew1) | exact HB.out))⟩
      · simp only [if_true] at hM
        by_cases hL : 0 ≤ f1 ∧ x.length ≤ 1000000
        · rw [if_pos hL] at hM
          obtain ⟨n1, rfl⟩ : ∃ n : Nat, f1 = (n : Int) := ⟨f1.toNat, by omega⟩
          have HL := Aside0.mk hL.2
          clear hL
          simp only [Int.toNat_natCast] at hM
          by_cases h0 : f0 = 0
          · rw [if_pos h0] at hM
            subst h0
            by_cases h1 : (n1 : Int) > (x.length : Int)
            · rw [if_pos h1] at hM
              simp only [Option.some.injEq, Prod.mk.injEq] at hM
              obtain ⟨rfl, rfl⟩ := hM
              have h1b : decide ((n1 : Int) > (x.length : Int)) = true := decide_eq_true h1
              have h1c : decide ((x.length : Int) < (n1 : Int)) = true := decide_eq_true h1
              have h1d : decide (x.length < n1) = true := decide_eq_true (by omega)
              go_wp2_with (go_at_call 46; (with_reducible refine (impl_isDeskEdit.calls k 0 (n1 : Int) f2 f3 true _ HT.out).mono ?_); rintro e wq ⟨rfl, hb⟩; have m0_ := Aside0.mk (blk_below (heap_alloc_new wr (.cells #[.int .i64 0, .int .i64 (n1 : Int), .string f2, .string f3] 25)) hb); have n0_ := Aside0.mk (below_step (by repeat (first | (with_reducible first | exact HB.out | apply below_alloc | apply pw_below_drewN | apply below_drew1) | exact HB.out)) hb); have n1_ := Aside0.mk (Kd.R_below (Kd.R_alloc HO.out (.cells #[.int .i64 0, .int .i64 (n1 : Int), .string f2, .string f3] 25)) hb); clear HB HO; have HB := n0_; have BK := m0_; have HO := n1_; clear n0_ m0_ n1_ hb; have hz0 : wq.cell? ⟨wr.heap.size, 0, none⟩ = some (.int .i64 0) := (blk_cell BK.out 0).trans rfl; have hz1 : wq.cell? ⟨wr.heap.size, 1, none⟩ = some (.int .i64 (n1 : Int)) := (blk_cell BK.out 1).trans rfl; have hz2 : wq.cell? ⟨wr.heap.size, 2, none⟩ = some (.string f2) := (blk_cell BK.out 2).trans rfl; have hz3 : wq.cell? ⟨wr.heap.size, 3, none⟩ = some (.string f3) := (blk_cell BK.out 3).trans rfl)
              go_ret2
              exact ⟨_, by first | rfl | (simp; done), Kd.R_nil _ _ _ _ _, (by repeat (first | (with_reducible first | exact HB.out | apply below_alloc | apply pw_below_drewN | apply below_drew1) | exact HB.out))⟩
            · rw [if_neg h1] at hM
              have h1b : decide ((n1 : Int) > (x.length : Int)) = false := decide_eq_false h1
              have h1c : decide ((x.length : Int) < (n1 : Int)) = false := decide_eq_false h1
              have h1d : decide (x.length < n1) = false := decide_eq_false (by omega)
              by_cases h2 : (x.length : Int) = 20
              · rw [if_pos h2] at hM
                simp only [Option.some.injEq, Prod.mk.injEq] at hM
                obtain ⟨rfl, rfl⟩ := hM
                have h2b : ((x.length : Int) == 20) = true := beq_iff_eq.mpr h2
                go_wp2_with (go_at_call 46; (with_reducible refine (impl_isDeskEdit.calls k 0 (n1 : Int) f2 f3 true _ HT.out).mono ?_); rintro e wq ⟨rfl, hb⟩; have m0_ := Aside0.mk (blk_below (heap_alloc_new wr (.cells #[.int .i64 0, .int .i64 (n1 : Int), .string f2, .string f3] 25)) hb); have n0_ := Aside0.mk (below_step (by repeat (first | (with_reducible first | exact HB.out | apply below_alloc | apply pw_below_drewN | apply below_drew1) | exact HB.out)) hb); have n1_ := Aside0.mk (Kd.R_below (Kd.R_alloc HO.out (.cells #[.int .i64 0, .int .i64 (n1 : Int), .string f2, .string f3] 25)) hb); clear HB HO; have HB := n0_; have BK := m0_; have HO := n1_; clear n0_ m0_ n1_ hb; have hz0 : wq.cell? ⟨wr.heap.size, 0, none⟩ = some (.int .i64 0) := (blk_cell BK.out 0).trans rfl; have hz1 : wq.cell? ⟨wr.heap.size, 1, none⟩ = some (.int .i64 (n1 : Int)) := (blk_cell BK.out 1).trans rfl; have hz2 : wq.cell? ⟨wr.heap.size, 2, none⟩ = some (.string f2) := (blk_cell BK.out 2).trans rfl; have hz3 : wq.cell? ⟨wr.heap.size, 3, none⟩ = some (.string f3) := (blk_cell BK.out 3).trans rfl)
                go_ret2
                exact ⟨_, by first | rfl | (simp; done), Kd.R_nil _ _ _ _ _, (by repeat (first | (with_reducible first | exact HB.out | apply below_alloc | apply pw_below_drewN | apply below_drew1) | exact HB.out))⟩
              · rw [if_neg h2] at hM
                have h2b : ((x.length : Int) == 20) = false := beq_eq_false_iff_ne.mpr h2
                have HM' := Aside0.mk hM
                clear hM HM
                go_wp2_with (first | (go_at_call 46; (with_reducible refine (impl_isDeskEdit.calls k 0 (n1 : Int) f2 f3 true _ HT.out).mono ?_); rintro e wq ⟨rfl, hb⟩; have m0_ := Aside0.mk (blk_below (heap_alloc_new wr (.cells #[.int .i64 0, .int .i64 (n1 : Int), .string f2, .string f3] 25)) hb); have n0_ := Aside0.mk (below_step (by repeat (first | (with_reducible first | exact HB.out | apply below_alloc | apply pw_below_drewN | apply below_drew1) | exact HB.out)) hb); have n1_ := Aside0.mk (Kd.R_below (Kd.R_alloc HO.out (.cells #[.int .i64 0, .int .i64 (n1 : Int), .string f2, .string f3] 25)) hb); clear HB HO; have HB := n0_; have BK := m0_; have HO := n1_; clear n0_ m0_ n1_ hb; have hz0 : wq.cell? ⟨wr.heap.size, 0, none⟩ = some (.int .i64 0) := (blk_cell BK.out 0).trans rfl; have hz1 : wq.cell? ⟨wr.heap.size, 1, none⟩ = some (.int .i64 (n1 : Int)) := (blk_cell BK.out 1).trans rfl; have hz2 : wq.cell? ⟨wr.heap.size, 2, none⟩ = some (.string f2) := (blk_cell BK.out 2).trans rfl; have hz3 : wq.cell? ⟨wr.heap.size, 3, none⟩ = some (.string f3) := (blk_cell BK.out 3).trans rfl) | (go_at_call 103; refine (insR (W0 := w) n1 f2 _ _ (by (with_reducible repeat (first | apply Kd.R_alloc | apply Kd.R_drewN | apply Kd.R_drew)); exact HO.out) (by repeat (first | (with_reducible first | exact HB.out | apply below_alloc | apply pw_below_drewN | apply below_drew1) | exact HB.out)) (by omega) HL.out (heap_alloc_new _ _) (by have h_ := Kd.R_ne_new HO.out 0; exact h_)).mono ?_; rintro e w8 ⟨v5, rfl, ho, hb⟩; have n0_ := Aside0.mk hb; have n1_ := Aside0.mk ho; clear HB HO; have HB := n0_; have HO := n1_; clear n0_ n1_ ho hb))
                go_roundg (l1.length - (i + 1))
                case measure => have := HK.out; omega
                case rel => exact ⟨_, i + 1, by first | exact congrArg (Value.int .i64) hwi | rfl | (simp; done) | exact hwi | (simp [hwi]; done), ⟨rfl⟩, ⟨hlt⟩, HM', ⟨(by (with_reducible repeat (first | apply Kd.R_alloc | apply Kd.R_drewN | apply Kd.R_drew)); exact HO.out)⟩, ⟨(by repeat (first | (with_reducible first | exact HB.out | apply below_alloc | apply pw_below_drewN | apply below_drew1) | exact HB.out))⟩⟩
          · rw [if_neg h0] at hM
            have h0b : (f0 == 0) = false := beq_eq_false_iff_ne.mpr h0
            obtain ⟨s, hs, hN⟩ := Option.bind_eq_some_iff.mp hM
            clear hM
            have hM := hN
            clear hN
            have HS := Aside0.mk hs
            clear hs
            by_cases h1 : (s.toList != f3.toList) = true
            · rw [if_pos h1] at hM
              have h1e : (s.toList == f3.toList) = false := by simpa using h1
              have h1f : (s.toList != f3.toList) = true := h1
              have h1g : ¬ (s.toList = f3.toList) := by simpa using h1
              clear h1
              simp only [Option.some.injEq, Prod.mk.injEq] at hM
              obtain ⟨rfl, rfl⟩ := hM
              go_wp2_with (go_at_call 46; (with_reducible refine (impl_isDeskEdit.calls k f0 (n1 : Int) f2 f3 true _ HT.out).mono ?_); rintro e wq ⟨rfl, hb⟩; have m0_ := Aside0.mk (blk_below (heap_alloc_new wr (.cells #[.int .i64 f0, .int .i64 (n1 : Int), .string f2, .string f3] 25)) hb); have n0_ := Aside0.mk (below_step (by repeat (first | (with_reducible first | exact HB.out | apply below_alloc | apply pw_below_drewN | apply below_drew1) | exact HB.out)) hb); have n1_ := Aside0.mk (Kd.R_below (Kd.R_alloc HO.out (.cells #[.int .i64 f0, .int .i64 (n1 : Int), .string f2, .string f3] 25)) hb); clear HB HO; have HB := n0_; have BK := m0_; have HO := n1_; clear n0_ m0_ n1_ hb; have hz0 : wq.cell? ⟨wr.heap.size, 0, none⟩ = some (.int .i64 f0) := (blk_cell BK.out 0).trans rfl; have hz1 : wq.cell? ⟨wr.heap.size, 1, none⟩ = some (.int .i64 (n1 : Int)) := (blk_cell BK.out 1).trans rfl; have hz2 : wq.cell? ⟨wr.heap.size, 2, none⟩ = some (.string f2) := (blk_cell BK.out 2).trans rfl; have hz3 : wq.cell? ⟨wr.heap.size, 3, none⟩ = some (.string f3) := (blk_cell BK.out 3).trans rfl)
              go_region_with (go_at_call 54; (with_reducible refine (impl_itemAt.calls _ _ x (n1 : Int) s _ ?hI HCX.out HS.out).mono ?_); (case hI => exact (by obtain ⟨A_, c_, e_, h_, hC_⟩ := Kd.R_reads HO.out; injection e_ with e1_ e2_ e3_; subst e1_; repeat (first | exact hC_ | (with_reducible refine Kd.C_alloc ?_ _) | (with_reducible refine Kd.C_drewN ?_ _) | (with_reducible refine Kd.C_drew ?_)))); rintro e w8 ⟨rfl, ⟨nd, rfl⟩⟩)
              all_goals go_wp2
              all_goals
                go_ret2
                exact ⟨_, by first | rfl | (simp; done), Kd.R_nil _ _ _ _ _, (by repeat (first | (with_reducible first | exact HB.out | apply below_alloc | apply pw_below_drewN | apply below_drew1) | exact HB.out))⟩
            · rw [if_neg h1] at hM
              have h1 : (s.toList != f3.toList) = false := by simpa using h1
              have h1e : (s.toList == f3.toList) = true := by simpa using h1
              by_cases h2 : (n1 : Int) < (x.length : Int)
              · rw [if_pos h2] at hM
                have h3 : IntKind.i64.wrap ((n1 : Int) + 1) = (n1 : Int) + 1 := by have := HL.out; simp [IntKind.wrap, IntKind.bits, IntKind.signed]; omega
                by_cases h4 : f0 = 1
                · rw [if_pos h4] at hM
                  subst h4
                  have HM' := Aside0.mk hM
                  clear hM HM
                  go_wp2_with (go_at_call 46; (with_reducible refine (impl_isDeskEdit.calls k 1 (n1 : Int) f2 f3 true _ HT.out).mono ?_); rintro e wq ⟨rfl, hb⟩; have m0_ := Aside0.mk (blk_below (heap_alloc_new wr (.cells #[.int .i64 1, .int .i64 (n1 : Int), .string f2, .string f3] 25)) hb); have n0_ := Aside0.mk (below_step (by repeat (first | (with_reducible first | exact HB.out | apply below_alloc | apply pw_below_drewN | apply below_drew1) | exact HB.out)) hb); have n1_ := Aside0.mk (Kd.R_below (Kd.R_alloc HO.out (.cells #[.int .i64 1, .int .i64 (n1 : Int), .string f2, .string f3] 25)) hb); clear HB HO; have HB := n0_; have BK := m0_; have HO := n1_; clear n0_ m0_ n1_ hb; have hz0 : wq.cell? ⟨wr.heap.size, 0, none⟩ = some (.int .i64 1) := (blk_cell BK.out 0).trans rfl; have hz1 : wq.cell? ⟨wr.heap.size, 1, none⟩ = some (.int .i64 (n1 : Int)) := (blk_cell BK.out 1).trans rfl; have hz2 : wq.cell? ⟨wr.heap.size, 2, none⟩ = some (.string f2) := (blk_cell BK.out 2).trans rfl; have hz3 : wq.cell? ⟨wr.heap.size, 3, none⟩ = some (.string f3) := (blk_cell BK.out 3).trans rfl)
                  go_region_with (go_at_call 54; (with_reducible refine (impl_itemAt.calls _ _ x (n1 : Int) s _ ?hI HCX.out HS.out).mono ?_); (case hI => exact (by obtain ⟨A_, c_, e_, h_, hC_⟩ := Kd.R_reads HO.out; injection e_ with e1_ e2_ e3_; subst e1_; repeat (first | exact hC_ | (with_reducible refine Kd.C_alloc ?_ _) | (with_reducible refine Kd.C_drewN ?_ _) | (with_reducible refine Kd.C_drew ?_)))); rintro e w8 ⟨rfl, ⟨nd, rfl⟩⟩)
                  all_goals go_wp2_with (go_at_call 104; refine (delR (W0 := w) n1 (by (with_reducible repeat (first | apply Kd.R_alloc | apply Kd.R_drewN | apply Kd.R_drew)); exact HO.out) (by repeat (first | (with_reducible first | exact HB.out | apply below_alloc | apply pw_below_drewN | apply below_drew1) | exact HB.out)) (by omega)).mono ?_; rintro e w9 ⟨v5, rfl, ho, hb⟩; have n0_ := Aside0.mk hb; have n1_ := Aside0.mk ho; clear HB HO; have HB := n0_; have HO := n1_; clear n0_ n1_ ho hb)
                  all_goals
                    go_roundg (l1.length - (i + 1))
                    case measure => have := HK.out; omega
                    case rel => exact ⟨_, i + 1, by first | exact congrArg (Value.int .i64) hwi | rfl | (simp; done) | exact hwi | (simp [hwi]; done), ⟨rfl⟩, ⟨hlt⟩, HM', ⟨(by (with_reducible repeat (first | apply Kd.R_alloc | apply Kd.R_drewN | apply Kd.R_drew)); exact HO.out)⟩, ⟨(by repeat (first | (with_reducible first | exact HB.out | apply below_alloc | apply pw_below_drewN | apply below_drew1) | exact HB.out))⟩⟩
                · rw [if_neg h4] at hM
                  have h4b : (f0 == 1) = false := beq_eq_false_iff_ne.mpr h4
                  have HM' := Aside0.mk hM
                  clear hM HM
                  have h2n : n1 < x.length := by omega
                  obtain ⟨gr, cg, eg, hbg, hlg, cells, hcells⟩ := Kd.R_form HO.out (by omega)
                  injection eg with ea en ec
                  subst ea
                  subst ec
                  have GE := Aside0.mk hbg
                  clear hbg hlg hcells en
                  go_wp2_with (go_at_call 46; (with_reducible refine (impl_isDeskEdit.calls k f0 (n1 : Int) f2 f3 true _ HT.out).mono ?_); rintro e wq ⟨rfl, hb⟩; have m0_ := Aside0.mk (blk_below (heap_alloc_new wr (.cells #[.int .i64 f0, .int .i64 (n1 : Int), .string f2, .string f3] 25)) hb); have n0_ := Aside0.mk (below_step (by repeat (first | (with_reducible first | exact HB.out | apply below_alloc | apply pw_below_drewN | apply below_drew1) | exact HB.out)) hb); have n1_ := Aside0.mk (Kd.R_below (Kd.R_alloc HO.out (.cells #[.int .i64 f0, .int .i64 (n1 : Int), .string f2, .string f3] 25)) hb); clear HB HO; have HB := n0_; have BK := m0_; have HO := n1_; clear n0_ m0_ n1_ hb; have hz0 : wq.cell? ⟨wr.heap.size, 0, none⟩ = some (.int .i64 f0) := (blk_cell BK.out 0).trans rfl; have hz1 : wq.cell? ⟨wr.heap.size, 1, none⟩ = some (.int .i64 (n1 : Int)) := (blk_cell BK.out 1).trans rfl; have hz2 : wq.cell? ⟨wr.heap.size, 2, none⟩ = some (.string f2) := (blk_cell BK.out 2).trans rfl; have hz3 : wq.cell? ⟨wr.heap.size, 3, none⟩ = some (.string f3) := (blk_cell BK.out 3).trans rfl; have hs0 := (Kd.R_cell ByteArray.empty HO.out (n1 : Int) (by omega) (by omega)).1; have hs1 := (Kd.R_cell ByteArray.empty HO.out (n1 : Int) (by omega) (by omega)).2; simp only [Int.toNat_natCast] at hs0 hs1)
                  go_region_with (go_at_call 54; (with_reducible refine (impl_itemAt.calls _ _ x (n1 : Int) s _ ?hI HCX.out HS.out).mono ?_); (case hI => exact (by obtain ⟨A_, c_, e_, h_, hC_⟩ := Kd.R_reads HO.out; injection e_ with e1_ e2_ e3_; subst e1_; repeat (first | exact hC_ | (with_reducible refine Kd.C_alloc ?_ _) | (with_reducible refine Kd.C_drewN ?_ _) | (with_reducible refine Kd.C_drew ?_)))); rintro e w8 ⟨rfl, ⟨nd, rfl⟩⟩)
                  all_goals go_wp2
                  all_goals
                    go_roundg (l1.length - (i + 1))
                    case measure => have := HK.out; omega
                    case rel => exact ⟨_, i + 1, by first | exact congrArg (Value.int .i64) hwi | rfl | (simp; done) | exact hwi | (simp [hwi]; done), ⟨rfl⟩, ⟨hlt⟩, HM', ⟨(Kd.R_put (by (with_reducible repeat (first | apply Kd.R_alloc | apply Kd.R_drewN | apply Kd.R_drew)); exact HO.out) (n1 : Int) f2).1⟩, ⟨below_set (by repeat (first | (with_reducible first | exact HB.out | apply below_alloc | apply pw_below_drewN | apply below_drew1) | exact HB.out)) GE.out⟩⟩
              · rw [if_neg h2] at hM; exact absurd hM (by simp)
        · rw [if_neg hL] at hM; exact absurd hM (by simp)
    · have h3 : madeL k x (l1.drop i) = some (r1, r2) := HM.out
      rw [List.drop_eq_nil_of_le (by omega)] at h3
      simp only [madeL, Option.some.injEq, Prod.mk.injEq] at h3
      obtain ⟨rfl, rfl⟩ := h3
      go_wp2
      go_ret2
      exact ⟨_, by first | rfl | (simp; done), by (with_reducible repeat (first | apply Kd.R_alloc | apply Kd.R_drewN | apply Kd.R_drew)); exact HO.out, (by repeat (first | (with_reducible first | exact HB.out | apply below_alloc | apply pw_below_drewN | apply below_drew1) | exact HB.out))⟩

def impl_made.e (k : Nat) : Refl.Ent G := ⟨61, [(.c (.row 9 false)), (.c (.row 25 false))], .tup [(.c (.row 9 true)), (.c .bool)], fun x => impl_made.f k x.1 x.2⟩
theorem impl_made.ok (k : Nat) : Refl.EntOK Tryz.prog (impl_made.e k) := Refl.entOK_new Tryz.func61 (by kernel_rfl) (fun x y h S w vals hv => by
  cases vals with
  | nil => exact hv.elim
  | cons y0 vals =>
    cases vals with
    | nil => exact hv.2.elim
    | cons y1 vals =>
      cases vals with
      | cons _ _ => exact hv.2.2.elim
      | nil =>
        obtain ⟨A0, c0, rfl, hc0, hC0⟩ := c_of Kd.string rkStr (fun _ _ => rfl) rfl hv.1
        obtain ⟨A1, c1, rfl, hc1, hC1⟩ := c_of k25 rk25 (fun _ _ => k25_mk _ _) rfl hv.2.1
        refine (impl_made.calls k A0 c0 x.1 A1 c1 x.2 y.1 y.2 w hC0 hc0 hC1 hc1 h).mono ?_
        rintro en w' ⟨v, rfl, hR, hb⟩
        obtain ⟨μ, m1, m2, m3⟩ := Refl.newRow_rep (Γ := G) (q := 9) (S := S) (new_of Kd.string rkStr (fun _ _ _ _ _ h => h) rfl hR)
        exact ⟨μ, [.f (.c (.row 9 y.1 (.tok 0 0))), .f (.c (.v (.bool y.2)))], [v, .bool y.2], [.row 9 y.1 (.tok 0 0), .v (.bool y.2)], rfl, hb, m1, m2, ⟨m3, rfl, trivial⟩, by kernel_rfl, by kernel_rfl, by kernel_rfl⟩)

/-! ### impl_DeskEdit_105: function 105 -/

-- JOINS l0=None | BOXES 
def impl_DeskEdit_105.l0 : Nat → List (S25) → Int → Int → Option ((List (S25)))
  | 0, _, _, _ => none
  | k + 1, x0, x2, x3 => if x2 < x3 then (if 0 ≤ x3 then (if x3 < (x0.length : Int) then (if 0 ≤ x2 then (if x2 < (x0.length : Int) then (if 0 ≤ x2 then (if x2 < (x0.length : Int) then (if 0 ≤ x3 then (if x3 < (x0.length : Int) then (impl_DeskEdit_105.l0 k ((x0.set (x2 : Int).toNat (⟨(rd_T25 x0 x3).f0, (rd_T25 x0 x3).f1, (rd_T25 x0 x3).f2, (rd_T25 x0 x3).f3⟩ : S25)).set (x3 : Int).toNat (⟨(rd_T25 x0 x2).f0, (rd_T25 x0 x2).f1, (rd_T25 x0 x2).f2, (rd_T25 x0 x2).f3⟩ : S25)) (wrap64 (x2 + 1)) (wrap64 (x3 - 1))) else (none)) else (none)) else (none)) else (none)) else (none)) else (none)) else (none)) else (none)) else (some x0)
def impl_DeskEdit_105.f (k : Nat) (l0 : List (S25)) : Option ((List (S25))) := impl_DeskEdit_105.l0 k l0 0 (wrap64 ((l0.length : Int) - 1))
theorem impl_DeskEdit_105.mono_l : ∀ k, (∀ y0 y1 y2, LeO (impl_DeskEdit_105.l0 k y0 y1 y2) (impl_DeskEdit_105.l0 (k + 1) y0 y1 y2))
  | 0 => fun _ _ _ r h => by simp [impl_DeskEdit_105.l0] at h
  | k + 1 => by
    have ih0 := impl_DeskEdit_105.mono_l k
    · intro y0 y1 y2
      unfold impl_DeskEdit_105.l0
      repeat' first
      | (with_reducible exact ih0 _ _ _)
      | (with_reducible exact LeO.refl _)
      | (with_reducible exact LeO.none _)
      | (with_reducible refine LeO.ite ?_ ?_)
      | (with_reducible refine LeO.bind ?_ (fun _ => ?_))
      | exact ih0 _ _ _
      | exact LeO.none _
      | refine LeO.ite ?_ ?_
      | refine LeO.bind ?_ (fun _ => ?_)
theorem impl_DeskEdit_105.mono : ∀ a0 k, LeO (impl_DeskEdit_105.f k a0) (impl_DeskEdit_105.f (k + 1) a0) := by
  intro a0 k
  have ih0 := impl_DeskEdit_105.mono_l k
  unfold impl_DeskEdit_105.f
  repeat' first
      | (with_reducible exact ih0 _ _ _)
      | (with_reducible exact LeO.refl _)
      | (with_reducible exact LeO.none _)
      | (with_reducible refine LeO.ite ?_ ?_)
      | (with_reducible refine LeO.bind ?_ (fun _ => ?_))
      | exact ih0 _ _ _
      | exact LeO.none _
      | refine LeO.ite ?_ ?_
      | refine LeO.bind ?_ (fun _ => ?_)
def impl_DeskEdit_105.T3 : Bool × List (List Nat × List Nat) := (true, [([], []), ([], []), ([], []), ([], []), ([], []), ([], []), ([4, 5], [4, 5]), ([6], [6]), ([], []), ([], []), ([8, 9], [8, 9]), ([10], [10]), ([0, 1, 0, 1, 4, 5, 6, 7, 11], [0, 1]), ([12, 7, 0, 1, 4, 5, 6, 7, 11], [7, 12]), ([2, 3, 0, 1, 2, 3, 4, 5, 6, 7, 8, 9, 10, 11, 12, 13], [2, 3]), ([14, 11, 13, 0, 1, 2, 3, 4, 5, 6, 7, 8, 9, 10, 11, 12, 13], [11, 14])])
def impl_DeskEdit_105.B3 : List Nat := [0, 0, 0, 0, 0, 0, 48, 112, 0, 0, 768, 1792, 4083, 8179, 16383, 32767]
theorem impl_DeskEdit_105.tab3 : rtab .any (opsOf Tryz.f105 3) = impl_DeskEdit_105.T3 := by kernel_rfl
theorem impl_DeskEdit_105.bits3 : waitsOk impl_DeskEdit_105.T3.2 impl_DeskEdit_105.B3 = true := by kernel_rfl
set_option maxHeartbeats 8000000 in
set_option maxRecDepth 100000 in
theorem impl_DeskEdit_105.calls (k : Nat) (P0_ : Nat → Prop) (u9000_ : Value) (l0 : List (S25)) (r : List (S25)) (w0 w : World) (hB : Below w0.heap.size w0 w) (ho0 : Kd.R k25 25 w w0.heap.size P0_ u9000_ l0) (h : impl_DeskEdit_105.f k l0 = some r) :
    Calls Tryz.prog 105 #[u9000_] w fun e w' => e = .returned (.tuple #[]) ∧ Kd.R k25 25 w' w0.heap.size (fun k_ => (P0_ k_ ∨ w.heap.size ≤ k_)) u9000_ r ∧ Below w0.heap.size w0 w' ∧ Kept w w' (fun k_ => P0_ k_) := by
  have hu25 := Tryz.underlying25
  have HO0 := Aside0.mk (show Kd.R k25 25 w w0.heap.size (fun k_ => (P0_ k_ ∨ w.heap.size ≤ k_)) u9000_ l0 from Kd.R_mono ho0 (fun k_ hk => (.inl hk)))
  have HK := Aside0.mk (Kept.refl w (fun k_ => P0_ k_))
  have HW0 := Aside0.mk hB.size
  have HB := Aside0.mk hB
  clear hB
  have H : (impl_DeskEdit_105.l0 k l0 0 (wrap64 ((l0.length : Int) - 1))) = some r := h
  clear h
  have H' := Aside0.mk H
  clear H
  obtain ⟨Ao2, co2, eo2⟩ := Kd.R_slice HO0.out
  subst eo2
  go_enter Tryz.func105, Tryz.ntmps105
  go_wp2
  go_loopg [2, 3] k (fun kq v2 v3 w' => ∃ (x0_1 : List (S25)) (x2_1 : Int) (x3_1 : Int), v2 = .int .i64 x2_1 ∧ v3 = .int .i64 x3_1 ∧ Aside0 (impl_DeskEdit_105.l0 kq x0_1 x2_1 x3_1 = some r) ∧ Aside0 (kq ≤ k) ∧ Aside0 (Kd.R k25 25 w' w0.heap.size (fun k_ => (P0_ k_ ∨ w.heap.size ≤ k_)) (.slice Ao2 l0.length co2) x0_1) ∧ Aside0 (Kept w w' (fun k_ => P0_ k_)) ∧ Aside0 (Below w0.heap.size w0 w'))
  case atStart => exact ⟨(l0), (0), (wrap64 ((l0.length : Int) - 1)), (by first | rfl | (simp; done) | (simp [*]; done)), (by first | rfl | (simp; done) | (simp [*]; done)), H', ⟨Nat.le_refl _⟩, ⟨by (with_reducible repeat (first | apply Kd.R_alloc | apply Kd.R_drewN | apply Kd.R_drew)); exact HO0.out⟩, ⟨by repeat (first | (with_reducible first | exact HK.out | apply Kept.alloc | apply Kept.drewN | apply Kept.drew) | exact HK.out)⟩, ⟨by repeat (first | (with_reducible first | exact HB.out | apply below_alloc | apply pw_below_drewN | apply below_drew1) | exact HB.out)⟩⟩
  case round =>
    clear H'
    try clear c1
    try clear p2
    obtain ⟨x0_1, x2_1, x3_1, rfl, rfl, HA, HK1, HO_0, HK, HB⟩ := hrel
    have hl0_1 := (Kd.R_reads' HO_0.out).1
    rw [hl0_1] at HO_0
    (try simp only [hl0_1])
    cases gk with
    | zero => exact absurd HA.out (by simp [impl_DeskEdit_105.l0])
    | succ k1 =>
      have H := HA.out
      clear HA
      simp only [impl_DeskEdit_105.l0] at H
      by_cases c3 : x2_1 < x3_1
      · rw [if_pos c3] at H
        have c3b0 : decide (x2_1 < x3_1) = true := decide_eq_true c3
        clear c3
        by_cases c4 : 0 ≤ x3_1
        · rw [if_pos c4] at H
          have c4b0 : decide (0 ≤ x3_1) = true := decide_eq_true c4
          clear c4
          by_cases c5 : x3_1 < (x0_1.length : Int)
          · rw [if_pos c5] at H
            have c5b0 : decide (x3_1 < (x0_1.length : Int)) = true := decide_eq_true c5
            clear c5
            by_cases c6 : 0 ≤ x2_1
            · rw [if_pos c6] at H
              have c6b0 : decide (0 ≤ x2_1) = true := decide_eq_true c6
              clear c6
              by_cases c7 : x2_1 < (x0_1.length : Int)
              · rw [if_pos c7] at H
                have c7b0 : decide (x2_1 < (x0_1.length : Int)) = true := decide_eq_true c7
                clear c7
                by_cases c8 : 0 ≤ x2_1
                · rw [if_pos c8] at H
                  have c8b0 : decide (0 ≤ x2_1) = true := decide_eq_true c8
                  clear c8
                  by_cases c9 : x2_1 < (x0_1.length : Int)
                  · rw [if_pos c9] at H
                    have c9b0 : decide (x2_1 < (x0_1.length : Int)) = true := decide_eq_true c9
                    clear c9
                    obtain ⟨y696, hy696⟩ : ∃ y_ : List (S25), y_ = (x0_1.set (x2_1 : Int).toNat (⟨(rd_T25 x0_1 x3_1).f0, (rd_T25 x0_1 x3_1).f1, (rd_T25 x0_1 x3_1).f2, (rd_T25 x0_1 x3_1).f3⟩ : S25)) := ⟨_, rfl⟩
                    replace H : (if 0 ≤ x3_1 then (if x3_1 < (x0_1.length : Int) then (impl_DeskEdit_105.l0 k1 (y696.set (x3_1 : Int).toNat (⟨(rd_T25 x0_1 x2_1).f0, (rd_T25 x0_1 x2_1).f1, (rd_T25 x0_1 x2_1).f2, (rd_T25 x0_1 x2_1).f3⟩ : S25)) (wrap64 (x2_1 + 1)) (wrap64 (x3_1 - 1))) else (none)) else (none)) = some r := by first | (rw [hy696]; with_reducible exact H) | (have H2_ := (Option.bind_some _ _).symm.trans H; rw [hy696]; with_reducible exact H2_) | (have H2_ := (Option.bind_some _ _).symm.trans H; with_reducible exact H2_) | with_reducible exact H | (rw [hy696]; exact H) | exact H
                    have Ny696 := Aside0.mk hy696
                    clear hy696
                    by_cases c11 : 0 ≤ x3_1
                    · rw [if_pos c11] at H
                      have c11b0 : decide (0 ≤ x3_1) = true := decide_eq_true c11
                      clear c11
                      by_cases c12 : x3_1 < (x0_1.length : Int)
                      · rw [if_pos c12] at H
                        have c12b0 : decide (x3_1 < (x0_1.length : Int)) = true := decide_eq_true c12
                        clear c12
                        obtain ⟨y697, hy697⟩ : ∃ y_ : List (S25), y_ = (y696.set (x3_1 : Int).toNat (⟨(rd_T25 x0_1 x2_1).f0, (rd_T25 x0_1 x2_1).f1, (rd_T25 x0_1 x2_1).f2, (rd_T25 x0_1 x2_1).f3⟩ : S25)) := ⟨_, rfl⟩
                        replace H : (impl_DeskEdit_105.l0 k1 y697 (wrap64 (x2_1 + 1)) (wrap64 (x3_1 - 1))) = some r := by first | (rw [hy697]; with_reducible exact H) | (have H2_ := (Option.bind_some _ _).symm.trans H; rw [hy697]; with_reducible exact H2_) | (have H2_ := (Option.bind_some _ _).symm.trans H; with_reducible exact H2_) | with_reducible exact H | (rw [hy697]; exact H) | exact H
                        have Ny697 := Aside0.mk hy697
                        clear hy697
                        have H' := Aside0.mk H
                        clear H
                        try go_wp2
                        have n0_ := Aside0.mk (Kd.R_drew HO_0.out)
                        have n1_ := Aside0.mk (Kept.drew HK.out)
                        have n2_ := Aside0.mk (below_drew1 HB.out)
                        clear HO_0
                        clear HK
                        clear HB
                        have HO_0 := n0_
                        have HK := n1_
                        have HB := n2_
                        clear n0_ n1_ n2_
                        have p694 : 0 ≤ (x3_1 : Int) := of_decide_eq_true (by first | (with_reducible assumption) | assumption)
                        have q694 : x3_1 < (x0_1.length : Int) := of_decide_eq_true (by first | (with_reducible assumption) | assumption)
                        obtain ⟨ad694, e694, hx694_0, hx694_1, hx694_2, hx694_3⟩ := at_T25 (Kd.R_reads' HO_0.out).2.2 x3_1 p694 q694
                        cases e694
                        replace p694 := eq_true p694
                        replace q694 := eq_true q694
                        have p695 : 0 ≤ (x2_1 : Int) := of_decide_eq_true (by first | (with_reducible assumption) | assumption)
                        have q695 : x2_1 < (x0_1.length : Int) := of_decide_eq_true (by first | (with_reducible assumption) | assumption)
                        obtain ⟨ad695, e695, hx695_0, hx695_1, hx695_2, hx695_3⟩ := at_T25 (Kd.R_reads' HO_0.out).2.2 x2_1 p695 q695
                        obtain rfl : ad694 = ad695 := (by injection e695)
                        replace p695 := eq_true p695
                        replace q695 := eq_true q695
                        have p10 : 0 ≤ (x2_1 : Int) := of_decide_eq_true (by first | (with_reducible assumption) | assumption)
                        have q10 : (x2_1 : Int) < ((x0_1.length : Int) : Int) := of_decide_eq_true (by first | (with_reducible assumption) | assumption)
                        obtain ⟨go10, co10, eo10, gb10, gl10, cl10, HG10⟩ := Kd.R_form HO_0.out (by omega)
                        (first | cases eo10 | (injection eo10 with ea_ en_ ec_; (first | subst ea_ | (injection ea_ with ea_; subst ea_)); subst ec_; clear en_))
                        have GB10 := Aside0.mk gb10
                        have GG10 := Aside0.mk HG10
                        clear gb10 gl10 HG10
                        have HMgo10 := Aside0.mk (show (P0_ go10 ∨ w.heap.size ≤ go10) from (HO_0.out.1 _ rfl))
                        (first | simp only [add_plain] at hx694_0 | skip)
                        (first | simp only [add_plain] at hx694_1 | skip)
                        (first | simp only [add_plain] at hx694_2 | skip)
                        (first | simp only [add_plain] at hx694_3 | skip)
                        (first | simp only [add_plain] at hx695_0 | skip)
                        (first | simp only [add_plain] at hx695_1 | skip)
                        (first | simp only [add_plain] at hx695_2 | skip)
                        (first | simp only [add_plain] at hx695_3 | skip)
                        obtain ⟨ce10, hcl10, hM10, hcc10, hfr10⟩ := Kd.R_elem HO_0.out z25 (x2_1 : Int) p10 q10
                        obtain rfl := k25_openM hM10
                        have hx10_0 : World.cell? _ ⟨go10, (x2_1 : Int).toNat * 4, none⟩ = some (.int .i64 ((rd_T25 x0_1 x2_1).f0)) := hcc10 0 _ rfl
                        have hx10_1 : World.cell? _ ⟨go10, (x2_1 : Int).toNat * 4 + 1, none⟩ = some (.int .i64 ((rd_T25 x0_1 x2_1).f1)) := hcc10 1 _ rfl
                        have hx10_2 : World.cell? _ ⟨go10, (x2_1 : Int).toNat * 4 + 2, none⟩ = some (.string ((rd_T25 x0_1 x2_1).f2)) := hcc10 2 _ rfl
                        have hx10_3 : World.cell? _ ⟨go10, (x2_1 : Int).toNat * 4 + 3, none⟩ = some (.string ((rd_T25 x0_1 x2_1).f3)) := hcc10 3 _ rfl
                        have hf10_0 : World.frozen? _ ⟨go10, (x2_1 : Int).toNat * 4, none⟩ = false := hfr10 0
                        have hf10_1 : World.frozen? _ ⟨go10, (x2_1 : Int).toNat * 4 + 1, none⟩ = false := hfr10 1
                        have hf10_2 : World.frozen? _ ⟨go10, (x2_1 : Int).toNat * 4 + 2, none⟩ = false := hfr10 2
                        have hf10_3 : World.frozen? _ ⟨go10, (x2_1 : Int).toNat * 4 + 3, none⟩ = false := hfr10 3
                        clear hcl10 hcc10 hfr10 hM10
                        replace p10 := eq_true p10
                        replace q10 := eq_true q10
                        obtain ⟨ce15, hcl15, hM15, hcc15, hfr15⟩ := Kd.R_elem HO_0.out z25 (x2_1 : Int) (of_decide_eq_true (by first | (with_reducible assumption) | assumption)) (by have h_ : (x2_1 : Int) < ((x0_1.length : Int) : Int) := of_decide_eq_true (by first | (with_reducible assumption) | assumption); first | exact h_ | (have e_ := (Kd.R_reads' HO_0.out).1; omega) | simpa using h_)
                        obtain rfl := k25_openM hM15
                        have HP15 := (Kd.R_seg HO_0.out (x2_1 : Int) (of_decide_eq_true (by first | (with_reducible assumption) | assumption)) (by have h_ : (x2_1 : Int) < ((x0_1.length : Int) : Int) := of_decide_eq_true (by first | (with_reducible assumption) | assumption); first | exact h_ | (have e_ := (Kd.R_reads' HO_0.out).1; omega) | simpa using h_) (seg := [.int .i64 ((rd_T25 x0_1 x3_1).f0), .int .i64 ((rd_T25 x0_1 x3_1).f1), .string ((rd_T25 x0_1 x3_1).f2), .string ((rd_T25 x0_1 x3_1).f3)]) (j := 0) hcl15 hcc15 (show 4 ≤ 4 from by decide) (x' := (⟨(rd_T25 x0_1 x3_1).f0, (rd_T25 x0_1 x3_1).f1, (rd_T25 x0_1 x3_1).f2, (rd_T25 x0_1 x3_1).f3⟩ : S25)) (k25_mkM _ _ _ (⟨(rd_T25 x0_1 x3_1).f0, (rd_T25 x0_1 x3_1).f1, (rd_T25 x0_1 x3_1).f2, (rd_T25 x0_1 x3_1).f3⟩ : S25) ) (fun _ hk => hk)).1
                        rw [← Ny696.out] at HP15
                        have HQ15 := Aside0.mk HP15
                        clear hcl15 hcc15 hfr15 hM15 HP15
                        have p13 : 0 ≤ (x3_1 : Int) := of_decide_eq_true (by first | (with_reducible assumption) | assumption)
                        have q13 : (x3_1 : Int) < ((x0_1.length : Int) : Int) := of_decide_eq_true (by first | (with_reducible assumption) | assumption)
                        obtain ⟨ce13, hcl13, hM13, hcc13, hfr13⟩ := Kd.R_elem HQ15.out z25 (x3_1 : Int) p13 q13
                        obtain rfl := k25_openM hM13
                        have hx13_0 : World.cell? _ ⟨go10, (x3_1 : Int).toNat * 4, none⟩ = some (.int .i64 ((rd_T25 y696 x3_1).f0)) := hcc13 0 _ rfl
                        have hx13_1 : World.cell? _ ⟨go10, (x3_1 : Int).toNat * 4 + 1, none⟩ = some (.int .i64 ((rd_T25 y696 x3_1).f1)) := hcc13 1 _ rfl
                        have hx13_2 : World.cell? _ ⟨go10, (x3_1 : Int).toNat * 4 + 2, none⟩ = some (.string ((rd_T25 y696 x3_1).f2)) := hcc13 2 _ rfl
                        have hx13_3 : World.cell? _ ⟨go10, (x3_1 : Int).toNat * 4 + 3, none⟩ = some (.string ((rd_T25 y696 x3_1).f3)) := hcc13 3 _ rfl
                        have hf13_0 : World.frozen? _ ⟨go10, (x3_1 : Int).toNat * 4, none⟩ = false := hfr13 0
                        have hf13_1 : World.frozen? _ ⟨go10, (x3_1 : Int).toNat * 4 + 1, none⟩ = false := hfr13 1
                        have hf13_2 : World.frozen? _ ⟨go10, (x3_1 : Int).toNat * 4 + 2, none⟩ = false := hfr13 2
                        have hf13_3 : World.frozen? _ ⟨go10, (x3_1 : Int).toNat * 4 + 3, none⟩ = false := hfr13 3
                        clear hcl13 hcc13 hfr13 hM13
                        replace p13 := eq_true p13
                        replace q13 := eq_true q13
                        obtain ⟨ce16, hcl16, hM16, hcc16, hfr16⟩ := Kd.R_elem HQ15.out z25 (x3_1 : Int) (of_decide_eq_true (by first | (with_reducible assumption) | assumption)) (by have h_ : (x3_1 : Int) < ((x0_1.length : Int) : Int) := of_decide_eq_true (by first | (with_reducible assumption) | assumption); first | exact h_ | (have e_ := (Kd.R_reads' HO_0.out).1; omega) | simpa using h_)
                        obtain rfl := k25_openM hM16
                        have HP16 := (Kd.R_seg HQ15.out (x3_1 : Int) (of_decide_eq_true (by first | (with_reducible assumption) | assumption)) (by have h_ : (x3_1 : Int) < ((x0_1.length : Int) : Int) := of_decide_eq_true (by first | (with_reducible assumption) | assumption); first | exact h_ | (have e_ := (Kd.R_reads' HO_0.out).1; omega) | simpa using h_) (seg := [.int .i64 ((rd_T25 x0_1 x2_1).f0), .int .i64 ((rd_T25 x0_1 x2_1).f1), .string ((rd_T25 x0_1 x2_1).f2), .string ((rd_T25 x0_1 x2_1).f3)]) (j := 0) hcl16 hcc16 (show 4 ≤ 4 from by decide) (x' := (⟨(rd_T25 x0_1 x2_1).f0, (rd_T25 x0_1 x2_1).f1, (rd_T25 x0_1 x2_1).f2, (rd_T25 x0_1 x2_1).f3⟩ : S25)) (k25_mkM _ _ _ (⟨(rd_T25 x0_1 x2_1).f0, (rd_T25 x0_1 x2_1).f1, (rd_T25 x0_1 x2_1).f2, (rd_T25 x0_1 x2_1).f3⟩ : S25) ) (fun _ hk => hk)).1
                        rw [← Ny697.out] at HP16
                        have HQ16 := Aside0.mk HP16
                        clear hcl16 hcc16 hfr16 hM16 HP16
                        refine start_ (n := 16) (S := fun w' => w'.cell? ⟨go10, ((x3_1).toNat * 4), none⟩ = some (.int .i64 ((rd_T25 x0_1 x3_1).f0)) ∧ w'.cell? ⟨go10, ((x3_1).toNat * 4) + 1, none⟩ = some (.int .i64 ((rd_T25 x0_1 x3_1).f1)) ∧ w'.cell? ⟨go10, ((x3_1).toNat * 4) + 2, none⟩ = some (.string ((rd_T25 x0_1 x3_1).f2)) ∧ w'.cell? ⟨go10, ((x3_1).toNat * 4) + 3, none⟩ = some (.string ((rd_T25 x0_1 x3_1).f3)) ∧ w'.cell? ⟨go10, ((x2_1).toNat * 4), none⟩ = some (.int .i64 ((rd_T25 x0_1 x2_1).f0)) ∧ w'.cell? ⟨go10, ((x2_1).toNat * 4) + 1, none⟩ = some (.int .i64 ((rd_T25 x0_1 x2_1).f1)) ∧ w'.cell? ⟨go10, ((x2_1).toNat * 4) + 2, none⟩ = some (.string ((rd_T25 x0_1 x2_1).f2)) ∧ w'.cell? ⟨go10, ((x2_1).toNat * 4) + 3, none⟩ = some (.string ((rd_T25 x0_1 x2_1).f3))) (ds := [13, 15]) #[false, false, false, false, false, false, false, false, false, false, false, false, false, false, false, false] (by kernel_rfl) rfl rfl ⟨hx694_0, hx694_1, hx694_2, hx694_3, hx695_0, hx695_1, hx695_2, hx695_3⟩ (fun hHeld => ?_); refine with_tabW impl_DeskEdit_105.tab3 impl_DeskEdit_105.bits3 (fun HT_ HW_ => ?_)
                        generalize wr.drew = w14 at HO_0 HK HB GG10 HQ15 HQ16 hf10_0 hf10_1 hf10_2 hf10_3 hf13_0 hf13_1 hf13_2 hf13_3 hx10_0 hx10_1 hx10_2 hx10_3 hx13_0 hx13_1 hx13_2 hx13_3 hx694_0 hx694_1 hx694_2 hx694_3 hx695_0 hx695_1 hx695_2 hx695_3 hHeld ⊢
                        refine pure_ (i := 0) (N := some 14) (v := ?_) (a' := ?_) #[true, false, false, false, false, false, false, false, false, false, false, false, false, false, false, false] rfl rfl (any_of HT_.out (by kernel_rfl)) (fun _ _ _ h => h) (Or.inl ⟨by rfl, ?_⟩) ?_ ?_
                        rotate_left
                        · intro w'
                          go_simp
                          with_reducible rfl
                        rotate_left
                        · simp only [Act.put, List.setIfInBounds_toArray, List.set_cons_zero, List.set_cons_succ, i64_w, i32_w]
                          rfl
                        refine pure_ (i := 1) (N := some 15) (v := ?_) (a' := ?_) #[true, true, false, false, false, false, false, false, false, false, false, false, false, false, false, false] rfl rfl (any_of HT_.out (by kernel_rfl)) (fun _ _ _ h => h) (Or.inl ⟨by rfl, ?_⟩) ?_ ?_
                        rotate_left
                        · intro w'
                          go_simp
                          with_reducible rfl
                        rotate_left
                        · simp only [Act.put, List.setIfInBounds_toArray, List.set_cons_zero, List.set_cons_succ, i64_w, i32_w]
                          rfl
                        refine pure_ (i := 2) (N := some 16) (v := ?_) (a' := ?_) #[true, true, true, false, false, false, false, false, false, false, false, false, false, false, false, false] rfl rfl (any_of HT_.out (by kernel_rfl)) (fun _ _ _ h => h) (Or.inl ⟨by rfl, ?_⟩) ?_ ?_
                        rotate_left
                        · intro w'
                          go_simp
                          with_reducible rfl
                        rotate_left
                        · simp only [Act.put, List.setIfInBounds_toArray, List.set_cons_zero, List.set_cons_succ, i64_w, i32_w]
                          rfl
                        refine pure_ (i := 3) (N := some 17) (v := ?_) (a' := ?_) #[true, true, true, true, false, false, false, false, false, false, false, false, false, false, false, false] rfl rfl (any_of HT_.out (by kernel_rfl)) (fun _ _ _ h => h) (Or.inl ⟨by rfl, ?_⟩) ?_ ?_
                        rotate_left
                        · intro w'
                          go_simp
                          with_reducible rfl
                        rotate_left
                        · simp only [Act.put, List.setIfInBounds_toArray, List.set_cons_zero, List.set_cons_succ, i64_w, i32_w]
                          rfl
                        refine pure_ (i := 4) (N := some 18) (v := ?_) (a' := ?_) #[true, true, true, true, true, false, false, false, false, false, false, false, false, false, false, false] rfl rfl (any_of HT_.out (by kernel_rfl)) (fun _ _ _ h => h) (Or.inl ⟨by rfl, ?_⟩) ?_ ?_
                        rotate_left
                        · intro w'
                          go_simp
                          with_reducible rfl
                        rotate_left
                        · simp only [Act.put, List.setIfInBounds_toArray, List.set_cons_zero, List.set_cons_succ, i64_w, i32_w]
                          rfl
                        refine pure_ (i := 5) (N := some 19) (v := ?_) (a' := ?_) #[true, true, true, true, true, true, false, false, false, false, false, false, false, false, false, false] rfl rfl (any_of HT_.out (by kernel_rfl)) (fun _ _ _ h => h) (Or.inl ⟨by rfl, ?_⟩) ?_ ?_
                        rotate_left
                        · intro w'
                          go_simp
                          with_reducible rfl
                        rotate_left
                        · simp only [Act.put, List.setIfInBounds_toArray, List.set_cons_zero, List.set_cons_succ, i64_w, i32_w]
                          rfl
                        refine pure_ (i := 6) (N := some 20) (v := ?_) (a' := ?_) #[true, true, true, true, true, true, true, false, false, false, false, false, false, false, false, false] rfl rfl (any_of HT_.out (by kernel_rfl)) (fun _ _ _ h => h) (Or.inl ⟨by rfl, ?_⟩) ?_ ?_
                        rotate_left
                        · intro w'
                          go_simp
                          with_reducible rfl
                        rotate_left
                        · simp only [Act.put, List.setIfInBounds_toArray, List.set_cons_zero, List.set_cons_succ, i64_w, i32_w]
                          rfl
                        refine pure_ (i := 8) (N := some 22) (v := ?_) (a' := ?_) #[true, true, true, true, true, true, true, false, true, false, false, false, false, false, false, false] rfl rfl (any_of HT_.out (by kernel_rfl)) (fun _ _ _ h => h) (Or.inl ⟨by rfl, ?_⟩) ?_ ?_
                        rotate_left
                        · intro w'
                          go_simp
                          with_reducible rfl
                        rotate_left
                        · simp only [Act.put, List.setIfInBounds_toArray, List.set_cons_zero, List.set_cons_succ, i64_w, i32_w]
                          rfl
                        refine pure_ (i := 9) (N := some 23) (v := ?_) (a' := ?_) #[true, true, true, true, true, true, true, false, true, true, false, false, false, false, false, false] rfl rfl (any_of HT_.out (by kernel_rfl)) (fun _ _ _ h => h) (Or.inl ⟨by rfl, ?_⟩) ?_ ?_
                        rotate_left
                        · intro w'
                          go_simp
                          with_reducible rfl
                        rotate_left
                        · simp only [Act.put, List.setIfInBounds_toArray, List.set_cons_zero, List.set_cons_succ, i64_w, i32_w]
                          rfl
                        refine pure_ (i := 10) (N := some 24) (v := ?_) (a' := ?_) #[true, true, true, true, true, true, true, false, true, true, true, false, false, false, false, false] rfl rfl (any_of HT_.out (by kernel_rfl)) (fun _ _ _ h => h) (Or.inl ⟨by rfl, ?_⟩) ?_ ?_
                        rotate_left
                        · intro w'
                          go_simp
                          with_reducible rfl
                        rotate_left
                        · simp only [Act.put, List.setIfInBounds_toArray, List.set_cons_zero, List.set_cons_succ, i64_w, i32_w]
                          rfl
                        refine take_ (i := 7) (N := some 21) (v := ?_) (a' := ?_) #[true, true, true, true, true, true, true, true, true, true, true, false, false, false, false, false] rfl rfl (take_ofW HT_.out HW_.out (by kernel_rfl)) (fun _ _ _ h => h) (Or.inl ⟨by rfl, ?_⟩) hHeld ?_ ?_
                        rotate_left
                        · rintro w' ⟨s0, s1, s2, s3, s4, s5, s6, s7⟩
                          go_simp
                          with_reducible rfl
                        rotate_left
                        · simp only [Act.put, List.setIfInBounds_toArray, List.set_cons_zero, List.set_cons_succ, i64_w, i32_w]
                          rfl
                        refine take_ (i := 11) (N := some 25) (v := ?_) (a' := ?_) #[true, true, true, true, true, true, true, true, true, true, true, true, false, false, false, false] rfl rfl (take_ofW HT_.out HW_.out (by kernel_rfl)) (fun _ _ _ h => h) (Or.inl ⟨by rfl, ?_⟩) hHeld ?_ ?_
                        rotate_left
                        · rintro w' ⟨s0, s1, s2, s3, s4, s5, s6, s7⟩
                          go_simp
                          with_reducible rfl
                        rotate_left
                        · simp only [Act.put, List.setIfInBounds_toArray, List.set_cons_zero, List.set_cons_succ, i64_w, i32_w]
                          rfl
                        refine pure_ (i := 12) (N := some 26) (v := ?_) (a' := ?_) #[true, true, true, true, true, true, true, true, true, true, true, true, true, false, false, false] rfl rfl (any_of HT_.out (by kernel_rfl)) (fun _ _ _ h => h) (Or.inl ⟨by rfl, ?_⟩) ?_ ?_
                        rotate_left
                        · intro w'
                          go_simp
                          with_reducible rfl
                        rotate_left
                        · simp only [Act.put, List.setIfInBounds_toArray, List.set_cons_zero, List.set_cons_succ, i64_w, i32_w]
                          rfl
                        refine last_ (i := 13) (N := none) #[true, true, true, true, true, true, true, true, true, true, true, true, true, true, false, false] rfl rfl (one_of HT_.out (by kernel_rfl)) (by decide) (fun K hK => ?_)
                        refine skip_ (w1 := ?_) (by rfl) rfl ?_ ?_
                        rotate_left
                        · go_simp
                          rfl
                        refine hK.out _ _ ?_
                        clear hK K
                        refine pure_ (i := 14) (N := some 27) (v := ?_) (a' := ?_) #[true, true, true, true, true, true, true, true, true, true, true, true, true, true, true, false] rfl rfl (any_of HT_.out (by kernel_rfl)) (fun _ _ _ h => h) (Or.inl ⟨by rfl, ?_⟩) ?_ ?_
                        rotate_left
                        · intro w'
                          go_simp
                          with_reducible rfl
                        rotate_left
                        · simp only [Act.put, List.setIfInBounds_toArray, List.set_cons_zero, List.set_cons_succ, i64_w, i32_w]
                          rfl
                        have hlt_ : x2_1 < x3_1 := of_decide_eq_true (by assumption)
                        have hge_ : 0 ≤ x2_1 := of_decide_eq_true (by assumption)
                        have h3_ : x3_1 < (x0_1.length : Int) := of_decide_eq_true (by assumption)
                        have hne0_ : ¬ (x2_1.toNat = x3_1.toNat) := by omega
                        have hne1_ : ¬ (x3_1.toNat = x2_1.toNat) := by omega
                        have hne2_ : ¬ (x2_1.toNat * 4 = x3_1.toNat * 4) := by omega
                        have hne3_ : ¬ (x3_1.toNat * 4 = x2_1.toNat * 4) := by omega
                        obtain ⟨ceX, hclX, hMX, hccX, hfrX⟩ := Kd.R_elem HO_0.out z25 (x3_1 : Int) (by omega) h3_
                        have hfX_0 : World.frozen? _ ⟨go10, (x3_1 : Int).toNat * 4, none⟩ = false := hfrX 0
                        have hfX_1 : World.frozen? _ ⟨go10, (x3_1 : Int).toNat * 4 + 1, none⟩ = false := hfrX 1
                        have hfX_2 : World.frozen? _ ⟨go10, (x3_1 : Int).toNat * 4 + 2, none⟩ = false := hfrX 2
                        have hfX_3 : World.frozen? _ ⟨go10, (x3_1 : Int).toNat * 4 + 3, none⟩ = false := hfrX 3
                        clear hclX hMX hccX hfrX hlt_ hge_ h3_
                        refine last_ (i := 15) (N := none) #[true, true, true, true, true, true, true, true, true, true, true, true, true, true, true, true] rfl rfl (one_of HT_.out (by kernel_rfl)) (by decide) (fun K hK => ?_)
                        refine skip_ (w1 := ?_) (by rfl) rfl ?_ ?_
                        rotate_left
                        · go_simp
                          rfl
                        refine hK.out _ _ ?_
                        clear hK K
                        refine done_ (done_of HT_.out (by kernel_rfl)) ?_
                        try go_wp2
                        (try simp only [← hl0_1])
                        go_roundg k1
                        case measure => have := HK1.out; omega
                        case rel => exact ⟨(y697), (wrap64 (x2_1 + 1)), (wrap64 (x3_1 - 1)), (by first | rfl | (simp; done) | (simp [*]; done)), (by first | rfl | (simp; done) | (simp [*]; done)), H', ⟨by have := HK1.out; omega⟩, ⟨by (try simp only [hl0_1]); (with_reducible repeat (first | apply Kd.R_alloc | apply Kd.R_drewN | apply Kd.R_drew)); exact HQ16.out⟩, ⟨by repeat (first | (with_reducible first | exact HK.out | apply Kept.alloc | apply Kept.drewN | apply Kept.drew | refine Kept.setCell ?_ HMgo10.out _ | refine Kept.setCell ?_ HMgo10.out _ | refine Kept.setCell ?_ HMgo10.out _ | refine Kept.setCell ?_ HMgo10.out _ | refine Kept.setCell ?_ HMgo10.out _ | refine Kept.setCell ?_ HMgo10.out _ | refine Kept.setCell ?_ HMgo10.out _ | refine Kept.setCell ?_ HMgo10.out _) | exact HK.out)⟩, ⟨by repeat (first | (with_reducible first | exact HB.out | apply below_alloc | apply pw_below_drewN | apply below_drew1 | refine below_set ?_ GB10.out | refine below_set ?_ GB10.out | refine below_set ?_ GB10.out | refine below_set ?_ GB10.out | refine below_set ?_ GB10.out | refine below_set ?_ GB10.out | refine below_set ?_ GB10.out | refine below_set ?_ GB10.out) | exact HB.out)⟩⟩
                      · rw [if_neg c12] at H
                        exact absurd H (by simp)
                    · rw [if_neg c11] at H
                      exact absurd H (by simp)
                  · rw [if_neg c9] at H
                    exact absurd H (by simp)
                · rw [if_neg c8] at H
                  exact absurd H (by simp)
              · rw [if_neg c7] at H
                exact absurd H (by simp)
            · rw [if_neg c6] at H
              exact absurd H (by simp)
          · rw [if_neg c5] at H
            exact absurd H (by simp)
        · rw [if_neg c4] at H
          exact absurd H (by simp)
      · rw [if_neg c3] at H
        have c3b0 : decide (x2_1 < x3_1) = false := decide_eq_false c3
        clear c3
        obtain rfl := Option.some.inj H
        go_wp2
        first | go_end0 | ((try simp only [Exit.inBlock, Exit.then]); refine bodyPost_ret (results_none rfl _ _ _) rfl ?_)
        exact ⟨by first | rfl | (simp [errW_none, errW_some] <;> rfl) | (simp [*, errW_none, errW_some] <;> rfl), (by first | exact (by (with_reducible repeat (first | apply Kd.R_alloc | apply Kd.R_drewN | apply Kd.R_drew)); exact HO_0.out) | (simp only [hl0_1]; exact (by (with_reducible repeat (first | apply Kd.R_alloc | apply Kd.R_drewN | apply Kd.R_drew)); exact HO_0.out))), by repeat (first | (with_reducible first | exact HB.out | apply below_alloc | apply pw_below_drewN | apply below_drew1) | exact HB.out), by repeat (first | (with_reducible first | exact HK.out | apply Kept.alloc | apply Kept.drewN | apply Kept.drew) | exact HK.out)⟩

/-! ### impl_Desk_all: function 62 -/

theorem growDE.info : (Tryz.prog.info? 25).map (fun i => (i.zero, i.size, i.bytes)) = some (some (.agg #[(.int .i64 0), (.int .i64 0), (.string ⟨#[]⟩), (.string ⟨#[]⟩)]), 4, 48) := by kernel_rfl
theorem growDE.zero (W : World) (base : Nat) (ok : Nat → Prop) : Kd.M k25 W base ok (⟨0, 0, ⟨#[]⟩, ⟨#[]⟩⟩ : S25) (Value.cells (.agg #[(.int .i64 0), (.int .i64 0), (.string ⟨#[]⟩), (.string ⟨#[]⟩)])).toList := k25_mkM W base ok _
set_option maxHeartbeats 4000000 in
set_option maxRecDepth 100000 in
theorem growDE (n : Int) (w : World) (h0 : 0 ≤ n) (h1 : n < 2932031007402) :
    Calls Tryz.prog 124 #[.slice none 0 0, .int .i64 n] w fun e w' => ∃ v0_ : Value, e = .returned v0_ ∧ Kd.R k25 25 w' w.heap.size (fun _ => True) v0_ [] ∧ Below w.heap.size w w' := by
  have HB := Aside0.mk (Below.refl w.heap.size w)
  have q0 : IntKind.i64.wrap 0 = 0 := by decide
  have q1 : IntKind.i64.wrap n = n := by simp [IntKind.wrap, IntKind.bits, IntKind.signed]; omega
  have q2 : ¬ n < 0 := by omega
  have q2b : decide (n < 0) = false := decide_eq_false q2
  by_cases hn : n > 0
  · have q3 : decide (n > 0) = true := decide_eq_true hn
    have q4 : decide (0 < n) = true := decide_eq_true hn
    have H1 := Aside0.mk h1
    have H0 := Aside0.mk h0
    clear h1 h0
    go_enter Tryz.func124, Tryz.ntmps124
    go_wp2_with ((with_reducible refine gate_builtin (b := .append) (xs := #[.tmp 20, .tmp 21]) rfl ?_); at_builtin; refine Kd.R_append_zeros k25 (w0 := w) w.heap.size rfl (.tmp 20) (.tmp 21) 32 3 25 (.agg #[(.int .i64 0), (.int .i64 0), (.string ⟨#[]⟩), (.string ⟨#[]⟩)]) 48 rfl Tryz.underlying32 Tryz.underlying3 growDE.info rfl (by decide) (by omega) (.slice none 0 0) [] (⟨0, 0, ⟨#[]⟩, ⟨#[]⟩⟩ : S25) n (fun _ => True) rfl rfl (growDE.zero _ _ _) (fun _ _ => trivial) (Kd.R_nil _ _ _ _ _) H0.out ?aB ?aS ?aL ?_; (case aB => exact (by repeat (first | (with_reducible first | exact HB.out | apply below_alloc | apply pw_below_drewN | apply below_drew1) | exact HB.out))); (case aS => exact (below_size (by repeat (first | (with_reducible first | exact HB.out | apply below_alloc | apply pw_below_drewN | apply below_drew1) | exact HB.out)))); (case aL => have := H1.out; have := H0.out; simp; omega); intro v2 w6 ho hb hg hat; obtain ⟨A2, c2, rfl, hc2, hC2⟩ := Kd.R_reads ho; have n0_ := Aside0.mk (hb); have n1_ := Aside0.mk (Kd.R_take (m := 0) ho (Nat.zero_le _)); clear HB; have HB := n0_; have HO := n1_; clear n0_ n1_; clear ho hb hg hat hC2 hc2)
    go_ret
    exact ⟨_, rfl, by (with_reducible repeat (first | apply Kd.R_alloc | apply Kd.R_drewN | apply Kd.R_drew)); exact HO.out, (by repeat (first | (with_reducible first | exact HB.out | apply below_alloc | apply pw_below_drewN | apply below_drew1) | exact HB.out))⟩
  · have q3 : decide (n > 0) = false := decide_eq_false hn
    have q4 : decide (0 < n) = false := decide_eq_false hn
    clear h1 h0
    go_enter Tryz.func124, Tryz.ntmps124
    go_wp2
    go_ret
    exact ⟨_, rfl, Kd.R_nil _ _ _ _ _, (by repeat (first | (with_reducible first | exact HB.out | apply below_alloc | apply pw_below_drewN | apply below_drew1) | exact HB.out))⟩
set_option maxHeartbeats 4000000 in
set_option maxRecDepth 100000 in
theorem concatDE (A0 : Option Addr) (c0 : Nat) (l0 : List S25) (A1 : Option Addr) (c1 : Nat) (l1 : List S25) (g : Nat) (w : World) (hg : w.heap[g]? = some (.cells #[.slice A0 l0.length c0, .slice A1 l1.length c1] 32 (0, 0))) (hr0 : Kd.C k25 w A0 l0.length l0) (hr1 : Kd.C k25 w A1 l1.length l1) (hl : l0.length + l1.length < 2932031007402) :
    Calls Tryz.prog 106 #[.slice (some ⟨g, 0, none⟩) 2 2] w fun e w' => ∃ v0_ : Value, e = .returned v0_ ∧ Kd.R k25 25 w' w.heap.size (fun _ => True) v0_ (l0 ++ l1) ∧ Below w.heap.size w w' := by
  have HB := Aside0.mk (Below.refl w.heap.size w)
  have huS := Tryz.underlying122
  have huL := Tryz.underlying32
  have LM := Aside0.mk hl
  have HR0 := Aside0.mk hr0
  have HR1 := Aside0.mk hr1
  have BK := Aside0.mk hg
  have hz0 : w.cell? ⟨g, 0, none⟩ = some (.slice A0 l0.length c0) := (blk_cell hg 0).trans rfl
  have hz1 : w.cell? ⟨g, 1, none⟩ = some (.slice A1 l1.length c1) := (blk_cell hg 1).trans rfl
  have HG := Aside0.mk (fun w => growDE ((l0.length : Int) + (l1.length : Int)) w (by omega) (by omega))
  have e0 : IntKind.i64.wrap (l0.length : Int) = (l0.length : Int) := by simp [IntKind.wrap, IntKind.bits, IntKind.signed]; omega
  have e1 : IntKind.i64.wrap ((l0.length : Int) + (l1.length : Int)) = (l0.length : Int) + (l1.length : Int) := by simp [IntKind.wrap, IntKind.bits, IntKind.signed]; omega
  have e2 : decide ((l0.length : Int) < 0) = false := decide_eq_false (by omega)
  have e3 : decide ((l0.length : Int) + (l1.length : Int) < 0) = false := decide_eq_false (by omega)
  have e4 : IntKind.i64.wrap 0 = 0 := by decide
  have e5 : IntKind.i64.wrap 1 = 1 := by decide
  have e6 : IntKind.i64.wrap 2 = 2 := by decide
  have e7 : ¬ ((l0.length : Int) < 0) := by omega
  have e8 : ¬ ((l0.length : Int) + (l1.length : Int) < 0) := by omega
  clear hl hr0 hr1 hg
  go_enter Tryz.func106, Tryz.ntmps106
  go_wp2
  refine wp_loop_rounds 3 ?_
  repeat any_goals (rw [rounds_succ]; go_wp2_with (go_at_call 124; refine (HG.out _).mono ?_; rintro e wq ⟨v2, rfl, ho, hb⟩; have n0_ := Aside0.mk (below_step (by repeat (first | (with_reducible first | exact HB.out | apply below_alloc | apply pw_below_drewN | apply below_drew1) | exact HB.out)) hb); have n1_ := Aside0.mk (Kd.R_lower ho (below_size (by repeat (first | (with_reducible first | exact HB.out | apply below_alloc | apply pw_below_drewN | apply below_drew1) | exact HB.out)))); clear HB; have HB := n0_; have HO := n1_; clear n0_ n1_ hb ho; have hz0 : wq.cell? ⟨g, 0, none⟩ = some (.slice A0 l0.length c0) := (blk_cell (blk_below BK.out HB.out) 0).trans rfl; have hz1 : wq.cell? ⟨g, 1, none⟩ = some (.slice A1 l1.length c1) := (blk_cell (blk_below BK.out HB.out) 1).trans rfl))
  refine wp_loop_rounds 3 ?_
  rw [rounds_succ]
  go_wp2_with ((with_reducible refine gate_builtin (b := .append) (xs := #[.tmp 31, .tmp 32]) rfl ?_); at_builtin; refine Kd.R_append_rows k25 (w0 := w) w.heap.size rfl (.tmp 31) (.tmp 32) 32 25 (.agg #[(.int .i64 0), (.int .i64 0), (.string ⟨#[]⟩), (.string ⟨#[]⟩)]) 48 rfl Tryz.underlying32 growDE.info rfl (by decide) (by omega) v2 ([]) l0 _ _ _ (fun _ => True) (fun _ => False) rfl rfl ?aO ?aR (fun _ _ h => h) (fun _ h => h.elim) ?aF ?aB ?aS ?aL ?_; (case aR => repeat (first | exact (Kd.C_below HR0.out HB.out) | (with_reducible refine Kd.C_alloc ?_ _) | (with_reducible refine Kd.C_drewN ?_ _) | (with_reducible refine Kd.C_drew ?_))); (case aB => exact (by repeat (first | (with_reducible first | exact HB.out | apply below_alloc | apply pw_below_drewN | apply below_drew1) | exact HB.out))); (case aF => exact (fun _ _ => trivial)); (case aO => exact (by (with_reducible repeat (first | apply Kd.R_alloc | apply Kd.R_drewN | apply Kd.R_drew)); exact HO.out)); (case aS => exact (below_size (by repeat (first | (with_reducible first | exact HB.out | apply below_alloc | apply pw_below_drewN | apply below_drew1) | exact HB.out)))); (case aL => have := LM.out; simp; omega); intro v3 wq ho hb hg hat; have n1_ := Aside0.mk (hb); have n2_ := Aside0.mk (ho); clear HB HO; have HB := n1_; have HO := n2_; clear n1_ n2_ ho hb hg hat; have hz0 : wq.cell? ⟨g, 0, none⟩ = some (.slice A0 l0.length c0) := (blk_cell (blk_below BK.out HB.out) 0).trans rfl; have hz1 : wq.cell? ⟨g, 1, none⟩ = some (.slice A1 l1.length c1) := (blk_cell (blk_below BK.out HB.out) 1).trans rfl)
  rw [rounds_succ]
  go_wp2_with ((with_reducible refine gate_builtin (b := .append) (xs := #[.tmp 31, .tmp 32]) rfl ?_); at_builtin; refine Kd.R_append_rows k25 (w0 := w) w.heap.size rfl (.tmp 31) (.tmp 32) 32 25 (.agg #[(.int .i64 0), (.int .i64 0), (.string ⟨#[]⟩), (.string ⟨#[]⟩)]) 48 rfl Tryz.underlying32 growDE.info rfl (by decide) (by omega) v3 ([] ++ l0) l1 _ _ _ (fun _ => True) (fun _ => False) rfl rfl ?aO ?aR (fun _ _ h => h) (fun _ h => h.elim) ?aF ?aB ?aS ?aL ?_; (case aR => repeat (first | exact (Kd.C_below HR1.out HB.out) | (with_reducible refine Kd.C_alloc ?_ _) | (with_reducible refine Kd.C_drewN ?_ _) | (with_reducible refine Kd.C_drew ?_))); (case aB => exact (by repeat (first | (with_reducible first | exact HB.out | apply below_alloc | apply pw_below_drewN | apply below_drew1) | exact HB.out))); (case aF => exact (fun _ _ => trivial)); (case aO => exact (by (with_reducible repeat (first | apply Kd.R_alloc | apply Kd.R_drewN | apply Kd.R_drew)); exact HO.out)); (case aS => exact (below_size (by repeat (first | (with_reducible first | exact HB.out | apply below_alloc | apply pw_below_drewN | apply below_drew1) | exact HB.out)))); (case aL => have := LM.out; simp; omega); intro v4 wq ho hb hg hat; have n1_ := Aside0.mk (hb); have n2_ := Aside0.mk (ho); clear HB HO; have HB := n1_; have HO := n2_; clear n1_ n2_ ho hb hg hat; have hz0 : wq.cell? ⟨g, 0, none⟩ = some (.slice A0 l0.length c0) := (blk_cell (blk_below BK.out HB.out) 0).trans rfl; have hz1 : wq.cell? ⟨g, 1, none⟩ = some (.slice A1 l1.length c1) := (blk_cell (blk_below BK.out HB.out) 1).trans rfl)
  rw [rounds_succ]
  go_wp2
  go_ret
  exact ⟨_, rfl, by have HO_ := HO.out; simp only [List.nil_append] at HO_; (with_reducible repeat (first | apply Kd.R_alloc | apply Kd.R_drewN | apply Kd.R_drew)); exact HO_, (by repeat (first | (with_reducible first | exact HB.out | apply below_alloc | apply pw_below_drewN | apply below_drew1) | exact HB.out))⟩
def impl_Desk_all.f (k : Nat) (l0_0 : List ByteArray) (l0_1 l0_2 : List S25) : Option (List S25) := (impl_DeskEdit_69.f l0_2).bind fun y => (impl_DeskEdit_105.f k y).bind fun z => if l0_1.length + z.length < 2932031007402 then some (l0_1 ++ z) else none
theorem impl_Desk_all.mono : ∀ l0_0 l0_1 l0_2 k, LeO (impl_Desk_all.f k l0_0 l0_1 l0_2) (impl_Desk_all.f (k + 1) l0_0 l0_1 l0_2) := by
  intro l0_0 l0_1 l0_2 k
  unfold impl_Desk_all.f
  exact LeO.bind (LeO.refl _) (fun _ => LeO.bind (impl_DeskEdit_105.mono _ _) (fun _ => LeO.refl _))
set_option maxHeartbeats 4000000 in
set_option maxRecDepth 100000 in
theorem impl_Desk_all.calls (k : Nat) (A0_0 : Option Addr) (c0_0 : Nat) (l0_0 : List ByteArray) (A0_1 : Option Addr) (c0_1 : Nat) (l0_1 : List S25) (A0_2 : Option Addr) (c0_2 : Nat) (l0_2 : List S25) (r : List S25) (w : World) (hr0_0 : Kd.C Kd.string w A0_0 l0_0.length l0_0) (hc0_0 : l0_0.length ≤ c0_0) (hr0_1 : Kd.C k25 w A0_1 l0_1.length l0_1) (hc0_1 : l0_1.length ≤ c0_1) (hr0_2 : Kd.C k25 w A0_2 l0_2.length l0_2) (hc0_2 : l0_2.length ≤ c0_2) (h : impl_Desk_all.f k l0_0 l0_1 l0_2 = some r) :
    Calls Tryz.prog 62 #[.agg #[.slice A0_0 l0_0.length c0_0, .slice A0_1 l0_1.length c0_1, .slice A0_2 l0_2.length c0_2]] w fun e w' => ∃ v0_ : Value, e = .returned (v0_) ∧ Kd.R k25 25 w' w.heap.size (fun _ => True) v0_ r ∧ Below w.heap.size w w' := by
  have hu35 := Tryz.underlying34
  have huS := Tryz.underlying122
  have huL := Tryz.underlying32
  have HB := Aside0.mk (Below.refl w.heap.size w)
  unfold impl_Desk_all.f at h
  obtain ⟨y, hy, h⟩ := Option.bind_eq_some_iff.mp h
  obtain ⟨z, hz, h⟩ := Option.bind_eq_some_iff.mp h
  split at h
  · rename_i hl
    obtain rfl := Option.some.inj h
    have HY := Aside0.mk hy
    have HZ := Aside0.mk hz
    have LM := Aside0.mk hl
    have HR1 := Aside0.mk hr0_1
    have HR2 := Aside0.mk hr0_2
    have HC2 := Aside0.mk hc0_2
    clear hy hz hl hr0_0 hr0_1 hr0_2 hc0_0 hc0_1 hc0_2
    go_enter Tryz.func62, Tryz.ntmps62
    go_wp2_with (first | ((with_reducible refine gate_dst (N := 1) rfl ?_); refine box_event ?hg (N := 1) ?hd (cs := #[.slice A0_0 l0_0.length c0_0, .slice A0_1 l0_1.length c0_1, .slice A0_2 l0_2.length c0_2]) (t := 34) ?hr ?_; (case hd => rfl); (case hg => rfl); (case hr => first | (go_simp; done) | (go_simp; rfl)); intro gd hg wq hbox hb; have n0_ := Aside0.mk (below_step HB.out hb); have n1_ := Aside0.mk (hbox); clear HB; have HB := n0_; have BK := n1_; clear n0_ n1_; clear hb hbox hg; have hz1 : wq.cell? ⟨gd, 1, none⟩ = some (.slice A0_1 l0_1.length c0_1) := (blk_cell BK.out 1).trans rfl; have hz2 : wq.cell? ⟨gd, 2, none⟩ = some (.slice A0_2 l0_2.length c0_2) := (blk_cell BK.out 2).trans rfl) | (go_at_call 69; (with_reducible refine (impl_DeskEdit_69.calls _ _ l0_2 y _ (by repeat (first | exact (Kd.C_below HR2.out HB.out) | (with_reducible refine Kd.C_alloc ?_ _) | (with_reducible refine Kd.C_drewN ?_ _) | (with_reducible refine Kd.C_drew ?_))) HC2.out HY.out).mono ?_); rintro e wq ⟨v2, rfl, ho, hb⟩; have m0_ := Aside0.mk (blk_below (by (with_reducible repeat (first | refine blk_drewN ?_ _ | refine blk_drew ?_ | refine blk_alloc ?_ _)); exact BK.out) hb); have n0_ := Aside0.mk (below_step (by repeat (first | (with_reducible first | exact HB.out | apply below_alloc | apply pw_below_drewN | apply below_drew1) | exact HB.out)) hb); have n1_ := Aside0.mk (Kd.R_lower (Kd.R_newB ho (by (with_reducible repeat (first | refine blk_drewN ?_ _ | refine blk_drew ?_ | refine blk_alloc ?_ _)); exact BK.out)) (below_size (by repeat (first | (with_reducible first | exact HB.out | apply below_alloc | apply pw_below_drewN | apply below_drew1) | exact HB.out)))); clear HB BK; have HB := n0_; have HO := n1_; have BK := m0_; clear n0_ n1_ m0_ hb ho; have hz1 : wq.cell? ⟨gd, 1, none⟩ = some (.slice A0_1 l0_1.length c0_1) := (blk_cell BK.out 1).trans rfl; have hz2 : wq.cell? ⟨gd, 2, none⟩ = some (.slice A0_2 l0_2.length c0_2) := (blk_cell BK.out 2).trans rfl) | (go_at_call 105; (with_reducible refine (impl_DeskEdit_105.calls k (fun k_ => True ∧ k_ ≠ gd) v2 y z w _ (by repeat (first | (with_reducible first | exact HB.out | apply below_alloc | apply pw_below_drewN | apply below_drew1) | exact HB.out)) (by (with_reducible repeat (first | apply Kd.R_alloc | apply Kd.R_drewN | apply Kd.R_drew)); exact HO.out) HZ.out).mono ?_); rintro e wq ⟨rfl, ho, hb, hk⟩; have m0_ := Aside0.mk ((hk.2 gd (blk_lt (by (with_reducible repeat (first | refine blk_drewN ?_ _ | refine blk_drew ?_ | refine blk_alloc ?_ _)); exact BK.out)) (fun h_ => h_.2 rfl)).trans (by (with_reducible repeat (first | refine blk_drewN ?_ _ | refine blk_drew ?_ | refine blk_alloc ?_ _)); exact BK.out)); obtain ⟨A2, c2, rfl, hc2, hC2⟩ := Kd.R_reads ho; have n0_ := Aside0.mk hb; have n1_ := Aside0.mk hC2; clear HB BK HO; have HB := n0_; have HC := n1_; have BK := m0_; clear n0_ n1_ m0_ hb ho hk hc2 hC2; have hz1 : wq.cell? ⟨gd, 1, none⟩ = some (.slice A0_1 l0_1.length c0_1) := (blk_cell BK.out 1).trans rfl; have hz2 : wq.cell? ⟨gd, 2, none⟩ = some (.slice A0_2 l0_2.length c0_2) := (blk_cell BK.out 2).trans rfl) | (go_at_call 106; (with_reducible refine (concatDE A0_1 c0_1 l0_1 A2 c2 z _ _ ?hX ?hY ?hZ LM.out).mono ?_); (case hX => exact heap_alloc_new _ _); (case hY => exact (by repeat (first | exact (Kd.C_below HR1.out HB.out) | (with_reducible refine Kd.C_alloc ?_ _) | (with_reducible refine Kd.C_drewN ?_ _) | (with_reducible refine Kd.C_drew ?_)))); (case hZ => exact (by repeat (first | exact HC.out | (with_reducible refine Kd.C_alloc ?_ _) | (with_reducible refine Kd.C_drewN ?_ _) | (with_reducible refine Kd.C_drew ?_)))); rintro e wq ⟨v5, rfl, ho, hb⟩; have n0_ := Aside0.mk (below_step (by repeat (first | (with_reducible first | exact HB.out | apply below_alloc | apply pw_below_drewN | apply below_drew1) | exact HB.out)) hb); have n1_ := Aside0.mk (Kd.R_lower ho (below_size (by repeat (first | (with_reducible first | exact HB.out | apply below_alloc | apply pw_below_drewN | apply below_drew1) | exact HB.out)))); clear HB; have HB := n0_; have HO := n1_; clear n0_ n1_ hb ho))
    go_ret
    exact ⟨_, rfl, by (with_reducible repeat (first | apply Kd.R_alloc | apply Kd.R_drewN | apply Kd.R_drew)); exact HO.out, (by repeat (first | (with_reducible first | exact HB.out | apply below_alloc | apply pw_below_drewN | apply below_drew1) | exact HB.out))⟩
  · cases h

def impl_Desk_all.e (k : Nat) : Refl.Ent G := ⟨62, [(.agg gL4)], .one (.c (.row 25 true)), fun x => impl_Desk_all.f k x.1 x.2.1 x.2.2⟩
theorem impl_Desk_all.ok (k : Nat) : Refl.EntOK Tryz.prog (impl_Desk_all.e k) := Refl.entOK_new Tryz.func62 (by kernel_rfl) (fun x y h S w vals hv => by
  cases vals with
  | nil => exact hv.elim
  | cons y0 vals =>
    cases vals with
    | cons _ _ => exact hv.2.elim
    | nil =>
      obtain ⟨vs, rfl, hcs⟩ : ∃ vs : List Value, y0 = .agg vs.toArray ∧ Refl.CellsRep (Γ := G) w.heap.size S Refl.μ0 w [.row 9 x.1 .ro, .row 25 x.2.1 .ro, .row 25 x.2.2 .ro] vs := hv.1
      match vs, hcs with
      | [v0, v1, v2], ⟨q0, q1, q2, _⟩ =>
        obtain ⟨A0, c0, rfl, hc0, hC0⟩ := c_of Kd.string rkStr (fun _ _ => rfl) rfl q0
        obtain ⟨A1, c1, rfl, hc1, hC1⟩ := c_of k25 rk25 (fun _ _ => k25_mk _ _) rfl q1
        obtain ⟨A2, c2, rfl, hc2, hC2⟩ := c_of k25 rk25 (fun _ _ => k25_mk _ _) rfl q2
        refine (impl_Desk_all.calls k A0 c0 x.1 A1 c1 x.2.1 A2 c2 x.2.2 y w hC0 hc0 hC1 hc1 hC2 hc2 h).mono ?_
        rintro en w' ⟨v, rfl, hR, hb⟩
        obtain ⟨μ, m1, m2, m3⟩ := Refl.newRow_rep (Γ := G) (q := 25) (S := S) (new_of k25 rk25 (fun _ _ _ _ _ h => k25_openM h) rfl hR)
        exact ⟨μ, [.f (.c (.row 25 y (.tok 0 0)))], [v], [.row 25 y (.tok 0 0)], rfl, hb, m1, m2, ⟨m3, trivial⟩, by kernel_rfl, by kernel_rfl, by kernel_rfl⟩)

/-! ### impl_IsDesk: function 18 -/

def impl_IsDesk.j0 : Nat → Bool → List ByteArray → List (S25) → List (S25) → Option (Bool)
  | 0, _, _, _, _ => none
  | k + 1, x18, x699000, x699001, x699002 => if x18 = true then (some false) else ((impl_Desk_all.f k x699000 x699001 x699002).bind fun t700 => ((impl_made.f k x699000 t700).bind fun bt703 => (some bt703.2)))

def impl_IsDesk.f (k : Nat) (l0_0 : List ByteArray) (l0_1 : List (S25)) (l0_2 : List (S25)) : Option (Bool) := (impl_areItems.f k l0_0).bind fun t699 => (if t699 = true then (impl_IsDesk.j0 k (decide ((wrap64 ((l0_1.length : Int) + (l0_2.length : Int))) > 30)) l0_0 l0_1 l0_2) else (impl_IsDesk.j0 k true l0_0 l0_1 l0_2))

theorem impl_IsDesk.mono_l : ∀ k, (∀ y0 y1 y2 y3, LeO (impl_IsDesk.j0 k y0 y1 y2 y3) (impl_IsDesk.j0 (k + 1) y0 y1 y2 y3))
  | 0 => fun _ _ _ _ r h => by simp [impl_IsDesk.j0] at h
  | k + 1 => by
    have ih0 := impl_IsDesk.mono_l k
    · intro y0 y1 y2 y3
      unfold impl_IsDesk.j0
      repeat' first
      | (with_reducible exact ih0 _ _ _ _)
      | (with_reducible exact impl_Desk_all.mono _ _ _ _)
      | (with_reducible exact impl_areItems.mono _ _)
      | (with_reducible exact impl_made.mono _ _ _)
      | (with_reducible exact LeO.refl _)
      | (with_reducible exact LeO.none _)
      | (with_reducible refine LeO.ite ?_ ?_)
      | (with_reducible refine LeO.bind ?_ (fun _ => ?_))
      | exact ih0 _ _ _ _
      | exact impl_Desk_all.mono _ _ _ _
      | exact impl_areItems.mono _ _
      | exact impl_made.mono _ _ _
      | exact LeO.none _
      | refine LeO.ite ?_ ?_
      | refine LeO.bind ?_ (fun _ => ?_)

theorem impl_IsDesk.mono : ∀ a0 a1 a2 k, LeO (impl_IsDesk.f k a0 a1 a2) (impl_IsDesk.f (k + 1) a0 a1 a2) := by
  intro a0 a1 a2 k
  have ih0 := impl_IsDesk.mono_l k
  unfold impl_IsDesk.f
  repeat' first
      | (with_reducible exact ih0 _ _ _ _)
      | (with_reducible exact impl_Desk_all.mono _ _ _ _)
      | (with_reducible exact impl_areItems.mono _ _)
      | (with_reducible exact impl_made.mono _ _ _)
      | (with_reducible exact LeO.refl _)
      | (with_reducible exact LeO.none _)
      | (with_reducible refine LeO.ite ?_ ?_)
      | (with_reducible refine LeO.bind ?_ (fun _ => ?_))
      | exact ih0 _ _ _ _
      | exact impl_Desk_all.mono _ _ _ _
      | exact impl_areItems.mono _ _
      | exact impl_made.mono _ _ _
      | exact LeO.none _
      | refine LeO.ite ?_ ?_
      | refine LeO.bind ?_ (fun _ => ?_)

def impl_IsDesk.e (k : Nat) : Refl.Ent G := ⟨18, [(.agg gL4)], .one (.c .bool), fun x => impl_IsDesk.f k x.1 x.2.1 x.2.2⟩
def impl_IsDesk.pj0 : Refl.Pn G (Refl.PT G (impl_IsDesk.e 0).ol) := ⟨false, 1000001, ⟨[(18, .v (.c .bool)), (1, .box 1 0), (2, .k (Value.bool false))], [(1, 34, gL5)]⟩, fun k x => impl_IsDesk.j0 k x.1 x.2.1 x.2.2.1 x.2.2.2⟩
theorem impl_IsDesk.ok (k : Nat) : Refl.EntOK Tryz.prog (impl_IsDesk.e k) := Refl.ent_ok 1000000 k GC (fun k => [impl_areItems.e k, impl_Desk_all.e k, impl_made.e k]) (fun k => ⟨impl_areItems.ok k, impl_Desk_all.ok k, impl_made.ok k, trivial⟩) Tryz.func18 (by kernel_rfl) [impl_IsDesk.pj0] (ps := [impl_IsDesk.pj0]) (by kernel_rfl) ⟨⟨fun x => by kernel_rfl, fun k x => by kernel_rfl⟩, trivial⟩ (fun x => by kernel_rfl)

/-! ### impl_ItemsAfter: function 26 -/

def impl_ItemsAfter.j0 : Nat → Int → Bool → List ByteArray → List (S25) → List (S25) → Option (List ByteArray × Bool)
  | 0, _, _, _, _, _ => none
  | k + 1, x1, x20, x708000, x708001, x708002 => if x20 = true then (some (([] : List ByteArray), false)) else ((impl_Desk_all.f k x708000 x708001 x708002).bind fun t710 => (if 0 ≤ x1 then (if x1 ≤ (t710.length : Int) then ((impl_made.f k x708000 (t710.take (x1 : Int).toNat)).bind fun bt717 => (some (bt717.1, bt717.2))) else (none)) else (none)))

def impl_ItemsAfter.f (k : Nat) (l0_0 : List ByteArray) (l0_1 : List (S25)) (l0_2 : List (S25)) (a1 : Int) : Option (List ByteArray × Bool) := (impl_IsDesk.f k l0_0 l0_1 l0_2).bind fun t708 => (if t708 = true then ((impl_within.f a1 0 (wrap64 ((l0_1.length : Int) + (l0_2.length : Int)))).bind fun t709 => (impl_ItemsAfter.j0 k a1 (!t709) l0_0 l0_1 l0_2)) else (impl_ItemsAfter.j0 k a1 true l0_0 l0_1 l0_2))

theorem impl_ItemsAfter.mono_l : ∀ k, (∀ y0 y1 y2 y3 y4, LeO (impl_ItemsAfter.j0 k y0 y1 y2 y3 y4) (impl_ItemsAfter.j0 (k + 1) y0 y1 y2 y3 y4))
  | 0 => fun _ _ _ _ _ r h => by simp [impl_ItemsAfter.j0] at h
  | k + 1 => by
    have ih0 := impl_ItemsAfter.mono_l k
    · intro y0 y1 y2 y3 y4
      unfold impl_ItemsAfter.j0
      repeat' first
      | (with_reducible exact ih0 _ _ _ _ _)
      | (with_reducible exact impl_Desk_all.mono _ _ _ _)
      | (with_reducible exact impl_IsDesk.mono _ _ _ _)
      | (with_reducible exact impl_made.mono _ _ _)
      | (with_reducible exact LeO.refl _)
      | (with_reducible exact LeO.none _)
      | (with_reducible refine LeO.ite ?_ ?_)
      | (with_reducible refine LeO.bind ?_ (fun _ => ?_))
      | exact ih0 _ _ _ _ _
      | exact impl_Desk_all.mono _ _ _ _
      | exact impl_IsDesk.mono _ _ _ _
      | exact impl_made.mono _ _ _
      | exact LeO.none _
      | refine LeO.ite ?_ ?_
      | refine LeO.bind ?_ (fun _ => ?_)

theorem impl_ItemsAfter.mono : ∀ a0 a1 a2 a3 k, LeO (impl_ItemsAfter.f k a0 a1 a2 a3) (impl_ItemsAfter.f (k + 1) a0 a1 a2 a3) := by
  intro a0 a1 a2 a3 k
  have ih0 := impl_ItemsAfter.mono_l k
  unfold impl_ItemsAfter.f
  repeat' first
      | (with_reducible exact ih0 _ _ _ _ _)
      | (with_reducible exact impl_Desk_all.mono _ _ _ _)
      | (with_reducible exact impl_IsDesk.mono _ _ _ _)
      | (with_reducible exact impl_made.mono _ _ _)
      | (with_reducible exact LeO.refl _)
      | (with_reducible exact LeO.none _)
      | (with_reducible refine LeO.ite ?_ ?_)
      | (with_reducible refine LeO.bind ?_ (fun _ => ?_))
      | exact ih0 _ _ _ _ _
      | exact impl_Desk_all.mono _ _ _ _
      | exact impl_IsDesk.mono _ _ _ _
      | exact impl_made.mono _ _ _
      | exact LeO.none _
      | refine LeO.ite ?_ ?_
      | refine LeO.bind ?_ (fun _ => ?_)

def impl_ItemsAfter.e (k : Nat) : Refl.Ent G := ⟨26, [(.agg gL4), (.c li)], .tup [(.c (.row 9 true)), (.c .bool)], fun x => impl_ItemsAfter.f k x.1 x.2.1 x.2.2.1 x.2.2.2⟩
def impl_ItemsAfter.pj0 : Refl.Pn G (Refl.PT G (impl_ItemsAfter.e 0).ol) := ⟨false, 1000001, ⟨[(1, .v (.c li)), (20, .v (.c .bool)), (2, .box 2 0), (5, .k (Value.bool false))], [(2, 34, gL5)]⟩, fun k x => impl_ItemsAfter.j0 k x.1 x.2.1 x.2.2.1 x.2.2.2.1 x.2.2.2.2⟩
theorem impl_ItemsAfter.ok (k : Nat) : Refl.EntOK Tryz.prog (impl_ItemsAfter.e k) := Refl.ent_ok 1000000 k GC (fun k => [impl_IsDesk.e k, impl_within.e k, impl_Desk_all.e k, impl_made.e k]) (fun k => ⟨impl_IsDesk.ok k, impl_within.ok k, impl_Desk_all.ok k, impl_made.ok k, trivial⟩) Tryz.func26 (by kernel_rfl) [impl_ItemsAfter.pj0] (ps := [impl_ItemsAfter.pj0]) (by kernel_rfl) ⟨⟨fun x => by kernel_rfl, fun k x => by kernel_rfl⟩, trivial⟩ (fun x => by kernel_rfl)

/-! ### impl_ItemsNow: function 16 -/

def impl_ItemsNow.f (k : Nat) (l0_0 : List ByteArray) (l0_1 : List (S25)) (l0_2 : List (S25)) : Option (List ByteArray × Bool) := (impl_ItemsAfter.f k l0_0 l0_1 l0_2 (l0_1.length : Int)).bind fun bt722 => (some (bt722.1, bt722.2))

theorem impl_ItemsNow.mono : ∀ a0 a1 a2 k, LeO (impl_ItemsNow.f k a0 a1 a2) (impl_ItemsNow.f (k + 1) a0 a1 a2) := by
  intro a0 a1 a2 k
  unfold impl_ItemsNow.f
  repeat' first
      | (with_reducible exact impl_ItemsAfter.mono _ _ _ _ _)
      | (with_reducible exact LeO.refl _)
      | (with_reducible exact LeO.none _)
      | (with_reducible refine LeO.ite ?_ ?_)
      | (with_reducible refine LeO.bind ?_ (fun _ => ?_))
      | exact impl_ItemsAfter.mono _ _ _ _ _
      | exact LeO.none _
      | refine LeO.ite ?_ ?_
      | refine LeO.bind ?_ (fun _ => ?_)

def impl_ItemsNow.e (k : Nat) : Refl.Ent G := ⟨16, [(.agg gL4)], .tup [(.c (.row 9 true)), (.c .bool)], fun x => impl_ItemsNow.f k x.1 x.2.1 x.2.2⟩
theorem impl_ItemsNow.ok (k : Nat) : Refl.EntOK Tryz.prog (impl_ItemsNow.e k) := Refl.ent_ok 1000000 k GC (fun k => [impl_ItemsAfter.e k]) (fun k => ⟨impl_ItemsAfter.ok k, trivial⟩) Tryz.func16 (by kernel_rfl) [] (ps := []) (by kernel_rfl) trivial (fun x => by kernel_rfl)

/-! ### impl_DeleteItem: function 12 -/

def dl1.f (l : List ByteArray) (a1 : Int) : Option (Int × Int × ByteArray × ByteArray) := (impl_itemAt.f l a1).bind fun t => some (1, a1, (⟨#[]⟩ : ByteArray), t)

def dl2.f (k : Nat) (l0_0 : List ByteArray) (l0_1 l0_2 : List S25) (a1 : Int) : Option (List ByteArray × List S25 × List S25 × Bool) := (impl_ItemsNow.f k l0_0 l0_1 l0_2).bind fun bt => if bt.2 = true then (if (l0_1.length : Int) = 30 then some (([] : List ByteArray), ([] : List S25), ([] : List S25), false) else (slices_Clone_string_string.f l0_0).bind fun s => (impl_DeskEdit_69.f l0_1).bind fun d => (dl1.f bt.1 a1).bind fun e => if d.length < 2932031007402 then ((impl_IsDesk.f k s (d ++ [(⟨e.1, e.2.1, e.2.2.1, e.2.2.2⟩ : S25)]) ([] : List S25)).bind fun t => if t = true then some (s, d ++ [(⟨e.1, e.2.1, e.2.2.1, e.2.2.2⟩ : S25)], ([] : List S25), true) else some (([] : List ByteArray), ([] : List S25), ([] : List S25), false)) else none) else some (([] : List ByteArray), ([] : List S25), ([] : List S25), false)

def impl_DeleteItem.f (k : Nat) (l0_0 : List ByteArray) (l0_1 l0_2 : List S25) (a1 : Int) : Option (List ByteArray × List S25 × List S25 × Bool) := (dl2.f k l0_0 l0_1 l0_2 a1).bind fun b => some (b.1, b.2.1, b.2.2.1, b.2.2.2)

theorem dl2.mono : ∀ l0 l1 l2 a1 k, LeO (dl2.f k l0 l1 l2 a1) (dl2.f (k + 1) l0 l1 l2 a1) := by
  intro l0 l1 l2 a1 k
  unfold dl2.f
  repeat' first
  | (with_reducible exact impl_ItemsNow.mono _ _ _ _)
  | (with_reducible exact impl_IsDesk.mono _ _ _ _)
  | exact LeO.refl _
  | exact LeO.none _
  | refine LeO.ite ?_ ?_
  | refine LeO.bind ?_ (fun _ => ?_)

theorem impl_DeleteItem.mono : ∀ l0 l1 l2 a1 k, LeO (impl_DeleteItem.f k l0 l1 l2 a1) (impl_DeleteItem.f (k + 1) l0 l1 l2 a1) := fun l0 l1 l2 a1 k => LeO.bind (dl2.mono l0 l1 l2 a1 k) (fun _ => LeO.refl _)

def impl_DeleteItem.e (k : Nat) : Refl.Ent G := ⟨12, [(.agg gL4), (.c li)], .tup [(.agg gL6), (.c .bool)], fun x => impl_DeleteItem.f k x.1 x.2.1 x.2.2.1 x.2.2.2⟩
def dl1.e (k : Nat) : Refl.Ent G := ⟨53, [.c (.row 9 false), .ref [li]], .one (.agg [li, li, .str, .str]), fun x => dl1.f x.1 x.2⟩
theorem dl1.ok (k : Nat) : Refl.EntOK Tryz.prog (dl1.e k) := Refl.ent_ok 1000000 k GC (fun k => [impl_itemAt.e k]) (fun k => ⟨impl_itemAt.ok k, trivial⟩) Tryz.func53 (by kernel_rfl) [] (ps := []) (by kernel_rfl) trivial (fun x => by kernel_rfl)
def dl2.e (k : Nat) : Refl.Ent G := ⟨52, [.agg [.row 9 false, .row 25 false, .row 25 false], .clo 53 [[li]]], .tup [.agg [.row 9 true, .row 25 true, .row 25 true], .c .bool], fun x => dl2.f k x.1 x.2.1 x.2.2.1 x.2.2.2⟩
theorem dl2.ok (k : Nat) : Refl.EntOK Tryz.prog (dl2.e k) := Refl.ent_ok 1000000 k GC (fun k => [impl_ItemsNow.e k, slices_Clone_string_string.e k, impl_DeskEdit_69.e k, dl1.e k, impl_IsDesk.e k]) (fun k => ⟨impl_ItemsNow.ok k, slices_Clone_string_string.ok k, impl_DeskEdit_69.ok k, dl1.ok k, impl_IsDesk.ok k, trivial⟩) Tryz.func52 (by kernel_rfl) [] (ps := []) (by kernel_rfl) trivial (fun x => by kernel_rfl)
theorem impl_DeleteItem.ok (k : Nat) : Refl.EntOK Tryz.prog (impl_DeleteItem.e k) := Refl.ent_ok 1000000 k GC (fun k => [dl2.e k]) (fun k => ⟨dl2.ok k, trivial⟩) Tryz.func12 (by kernel_rfl) [] (ps := []) (by kernel_rfl) trivial (fun x => by kernel_rfl)

/-! ### laws_pSameTexts: function 17 -/

def laws_pSameTexts.l0 : Nat → List ByteArray → List ByteArray → Int → Int → Option (Bool)
  | 0, _, _, _, _ => none
  | k + 1, x0, x1, x12, x13 => if x13 < x12 then (if 0 ≤ x13 then (if x13 < (x0.length : Int) then (if 0 ≤ x13 then (if x13 < (x1.length : Int) then (if (rdOf ByteArray.empty x0 x13).toList = (rdOf ByteArray.empty x1 x13).toList then (laws_pSameTexts.l0 k x0 x1 x12 (wrap64 (x13 + 1))) else (some false)) else (none)) else (none)) else (none)) else (none)) else (some true)

def laws_pSameTexts.f (k : Nat) (l0 : List ByteArray) (l1 : List ByteArray) : Option (Bool) := if (l0.length : Int) = (l1.length : Int) then (laws_pSameTexts.l0 k l0 l1 (l0.length : Int) 0) else (some false)

theorem laws_pSameTexts.mono_l : ∀ k, (∀ y0 y1 y2 y3, LeO (laws_pSameTexts.l0 k y0 y1 y2 y3) (laws_pSameTexts.l0 (k + 1) y0 y1 y2 y3))
  | 0 => fun _ _ _ _ r h => by simp [laws_pSameTexts.l0] at h
  | k + 1 => by
    have ih0 := laws_pSameTexts.mono_l k
    · intro y0 y1 y2 y3
      unfold laws_pSameTexts.l0
      repeat' first
      | (with_reducible exact ih0 _ _ _ _)
      | (with_reducible exact LeO.refl _)
      | (with_reducible exact LeO.none _)
      | (with_reducible refine LeO.ite ?_ ?_)
      | (with_reducible refine LeO.bind ?_ (fun _ => ?_))
      | exact ih0 _ _ _ _
      | exact LeO.none _
      | refine LeO.ite ?_ ?_
      | refine LeO.bind ?_ (fun _ => ?_)

theorem laws_pSameTexts.mono : ∀ a0 a1 k, LeO (laws_pSameTexts.f k a0 a1) (laws_pSameTexts.f (k + 1) a0 a1) := by
  intro a0 a1 k
  have ih0 := laws_pSameTexts.mono_l k
  unfold laws_pSameTexts.f
  repeat' first
      | (with_reducible exact ih0 _ _ _ _)
      | (with_reducible exact LeO.refl _)
      | (with_reducible exact LeO.none _)
      | (with_reducible refine LeO.ite ?_ ?_)
      | (with_reducible refine LeO.bind ?_ (fun _ => ?_))
      | exact ih0 _ _ _ _
      | exact LeO.none _
      | refine LeO.ite ?_ ?_
      | refine LeO.bind ?_ (fun _ => ?_)

def laws_pSameTexts.e (k : Nat) : Refl.Ent G := ⟨17, [(.c (.row 9 false)), (.c (.row 9 false))], .one (.c .bool), fun x => laws_pSameTexts.f k x.1 x.2⟩
def laws_pSameTexts.pl0 : Refl.Pn G (Refl.PT G (laws_pSameTexts.e 0).ol) := ⟨true, 0, ⟨[(0, .v (.c (.row 9 false))), (1, .v (.c (.row 9 false))), (12, .v (.c li)), (13, .v (.c li)), (4, .k (Value.bool false))], []⟩, fun k x => laws_pSameTexts.l0 k x.1 x.2.1 x.2.2.1 x.2.2.2⟩
theorem laws_pSameTexts.ok (k : Nat) : Refl.EntOK Tryz.prog (laws_pSameTexts.e k) := Refl.ent_ok 1000000 k GC (fun k => []) (fun k => trivial) Tryz.func17 (by kernel_rfl) [laws_pSameTexts.pl0] (ps := [laws_pSameTexts.pl0]) (by kernel_rfl) ⟨⟨fun x => by kernel_rfl, fun k x => by kernel_rfl⟩, trivial⟩ (fun x => by kernel_rfl)

/-! ### laws_pSameEdits: function 58 -/

def laws_pSameEdits.l0 : Nat → List (S25) → List (S25) → Int → Int → Option (Bool)
  | 0, _, _, _, _ => none
  | k + 1, x0, x1, x12, x13 => if x13 < x12 then (if 0 ≤ x13 then (if x13 < (x0.length : Int) then (if 0 ≤ x13 then (if x13 < (x1.length : Int) then (if ((((rd_T25 x0 x13).f0) == ((rd_T25 x1 x13).f0) && (((rd_T25 x0 x13).f1) == ((rd_T25 x1 x13).f1) && ((((rd_T25 x0 x13).f2).toList) == (((rd_T25 x1 x13).f2).toList) && ((((rd_T25 x0 x13).f3).toList) == (((rd_T25 x1 x13).f3).toList))))) = true) then (laws_pSameEdits.l0 k x0 x1 x12 (wrap64 (x13 + 1))) else (some false)) else (none)) else (none)) else (none)) else (none)) else (some true)

def laws_pSameEdits.f (k : Nat) (l0 : List (S25)) (l1 : List (S25)) : Option (Bool) := if (l0.length : Int) = (l1.length : Int) then (laws_pSameEdits.l0 k l0 l1 (l0.length : Int) 0) else (some false)

theorem laws_pSameEdits.mono_l : ∀ k, (∀ y0 y1 y2 y3, LeO (laws_pSameEdits.l0 k y0 y1 y2 y3) (laws_pSameEdits.l0 (k + 1) y0 y1 y2 y3))
  | 0 => fun _ _ _ _ r h => by simp [laws_pSameEdits.l0] at h
  | k + 1 => by
    have ih0 := laws_pSameEdits.mono_l k
    · intro y0 y1 y2 y3
      unfold laws_pSameEdits.l0
      repeat' first
      | (with_reducible exact ih0 _ _ _ _)
      | (with_reducible exact LeO.refl _)
      | (with_reducible exact LeO.none _)
      | (with_reducible refine LeO.ite ?_ ?_)
      | (with_reducible refine LeO.bind ?_ (fun _ => ?_))
      | exact ih0 _ _ _ _
      | exact LeO.none _
      | refine LeO.ite ?_ ?_
      | refine LeO.bind ?_ (fun _ => ?_)

theorem laws_pSameEdits.mono : ∀ a0 a1 k, LeO (laws_pSameEdits.f k a0 a1) (laws_pSameEdits.f (k + 1) a0 a1) := by
  intro a0 a1 k
  have ih0 := laws_pSameEdits.mono_l k
  unfold laws_pSameEdits.f
  repeat' first
      | (with_reducible exact ih0 _ _ _ _)
      | (with_reducible exact LeO.refl _)
      | (with_reducible exact LeO.none _)
      | (with_reducible refine LeO.ite ?_ ?_)
      | (with_reducible refine LeO.bind ?_ (fun _ => ?_))
      | exact ih0 _ _ _ _
      | exact LeO.none _
      | refine LeO.ite ?_ ?_
      | refine LeO.bind ?_ (fun _ => ?_)

def laws_pSameEdits.e (k : Nat) : Refl.Ent G := ⟨58, [(.c (.row 25 false)), (.c (.row 25 false))], .one (.c .bool), fun x => laws_pSameEdits.f k x.1 x.2⟩
def laws_pSameEdits.pl0 : Refl.Pn G (Refl.PT G (laws_pSameEdits.e 0).ol) := ⟨true, 0, ⟨[(0, .v (.c (.row 25 false))), (1, .v (.c (.row 25 false))), (12, .v (.c li)), (13, .v (.c li)), (4, .k (Value.bool false))], []⟩, fun k x => laws_pSameEdits.l0 k x.1 x.2.1 x.2.2.1 x.2.2.2⟩
theorem laws_pSameEdits.ok (k : Nat) : Refl.EntOK Tryz.prog (laws_pSameEdits.e k) := Refl.ent_ok 1000000 k GC (fun k => []) (fun k => trivial) Tryz.func58 (by kernel_rfl) [laws_pSameEdits.pl0] (ps := [laws_pSameEdits.pl0]) (by kernel_rfl) ⟨⟨fun x => by kernel_rfl, fun k x => by kernel_rfl⟩, trivial⟩ (fun x => by kernel_rfl)

/-! ### laws_pSameDesk: function 14 -/

def laws_pSameDesk.f (k : Nat) (l0_0 : List ByteArray) (l0_1 : List (S25)) (l0_2 : List (S25)) (l1_0 : List ByteArray) (l1_1 : List (S25)) (l1_2 : List (S25)) : Option (Bool) := (laws_pSameTexts.f k l0_0 l1_0).bind fun t732 => (if t732 = true then ((laws_pSameEdits.f k l0_1 l1_1).bind fun t733 => (if t733 = true then ((laws_pSameEdits.f k l0_2 l1_2).bind fun t734 => (some t734)) else (some false))) else (some false))

theorem laws_pSameDesk.mono : ∀ a0 a1 a2 a3 a4 a5 k, LeO (laws_pSameDesk.f k a0 a1 a2 a3 a4 a5) (laws_pSameDesk.f (k + 1) a0 a1 a2 a3 a4 a5) := by
  intro a0 a1 a2 a3 a4 a5 k
  unfold laws_pSameDesk.f
  repeat' first
      | (with_reducible exact laws_pSameEdits.mono _ _ _)
      | (with_reducible exact laws_pSameTexts.mono _ _ _)
      | (with_reducible exact LeO.refl _)
      | (with_reducible exact LeO.none _)
      | (with_reducible refine LeO.ite ?_ ?_)
      | (with_reducible refine LeO.bind ?_ (fun _ => ?_))
      | exact laws_pSameEdits.mono _ _ _
      | exact laws_pSameTexts.mono _ _ _
      | exact LeO.none _
      | refine LeO.ite ?_ ?_
      | refine LeO.bind ?_ (fun _ => ?_)

def laws_pSameDesk.e (k : Nat) : Refl.Ent G := ⟨14, [(.agg gL4), (.agg gL4)], .one (.c .bool), fun x => laws_pSameDesk.f k x.1 x.2.1 x.2.2.1 x.2.2.2.1 x.2.2.2.2.1 x.2.2.2.2.2⟩
theorem laws_pSameDesk.ok (k : Nat) : Refl.EntOK Tryz.prog (laws_pSameDesk.e k) := Refl.ent_ok 1000000 k GC (fun k => [laws_pSameTexts.e k, laws_pSameEdits.e k]) (fun k => ⟨laws_pSameTexts.ok k, laws_pSameEdits.ok k, trivial⟩) Tryz.func14 (by kernel_rfl) [] (ps := []) (by kernel_rfl) trivial (fun x => by kernel_rfl)

/-! ### spec_ItemsNow: function 15 -/

def spec_ItemsNow.f (k : Nat) (l0_0 : List ByteArray) (l0_1 : List (S25)) (l0_2 : List (S25)) : Option (List ByteArray × Bool) := (spec_unGood.f k l0_0 l0_1 l0_2).bind fun t736 => (if t736 = true then ((spec_unNow.f k l0_0 l0_1 l0_2).bind fun t737 => (some (t737, true))) else (some (([] : List ByteArray), false)))

theorem spec_ItemsNow.mono : ∀ a0 a1 a2 k, LeO (spec_ItemsNow.f k a0 a1 a2) (spec_ItemsNow.f (k + 1) a0 a1 a2) := by
  intro a0 a1 a2 k
  unfold spec_ItemsNow.f
  repeat' first
      | (with_reducible exact spec_unGood.mono _ _ _ _)
      | (with_reducible exact spec_unNow.mono _ _ _ _)
      | (with_reducible exact LeO.refl _)
      | (with_reducible exact LeO.none _)
      | (with_reducible refine LeO.ite ?_ ?_)
      | (with_reducible refine LeO.bind ?_ (fun _ => ?_))
      | exact spec_unGood.mono _ _ _ _
      | exact spec_unNow.mono _ _ _ _
      | exact LeO.none _
      | refine LeO.ite ?_ ?_
      | refine LeO.bind ?_ (fun _ => ?_)

def spec_ItemsNow.e (k : Nat) : Refl.Ent G := ⟨15, [(.agg gL4)], .tup [(.c (.row 9 true)), (.c .bool)], fun x => spec_ItemsNow.f k x.1 x.2.1 x.2.2⟩
theorem spec_ItemsNow.ok (k : Nat) : Refl.EntOK Tryz.prog (spec_ItemsNow.e k) := Refl.ent_ok 1000000 k GC (fun k => [spec_unGood.e k, spec_unNow.e k]) (fun k => ⟨spec_unGood.ok k, spec_unNow.ok k, trivial⟩) Tryz.func15 (by kernel_rfl) [] (ps := []) (by kernel_rfl) trivial (fun x => by kernel_rfl)

/-! ### spec_DrawInsertItem: function 63 -/

def spec_DrawInsertItem.f (k : Nat) (l0 : List Int) : Option (List ByteArray × (List (S25)) × (List (S25)) × Int × ByteArray) := (spec_l1Cur_desk.f k l0 0 0).bind fun bt742 => ((spec_l1Cur_itemPlace.f bt742.2.2.2.1 bt742.2.2.2.2.1 bt742.2.2.2.2.2).bind fun bt754 => ((spec_l1Cur_anyGloss.f bt754.2.1 bt754.2.2.1 bt754.2.2.2).bind fun bt758 => (some (bt742.1, bt742.2.1, bt742.2.2.1, bt754.1, bt758.1))))

theorem spec_DrawInsertItem.mono : ∀ a0 k, LeO (spec_DrawInsertItem.f k a0) (spec_DrawInsertItem.f (k + 1) a0) := by
  intro a0 k
  unfold spec_DrawInsertItem.f
  repeat' first
      | (with_reducible exact spec_l1Cur_desk.mono _ _ _ _)
      | (with_reducible exact LeO.refl _)
      | (with_reducible exact LeO.none _)
      | (with_reducible refine LeO.ite ?_ ?_)
      | (with_reducible refine LeO.bind ?_ (fun _ => ?_))
      | exact spec_l1Cur_desk.mono _ _ _ _
      | exact LeO.none _
      | refine LeO.ite ?_ ?_
      | refine LeO.bind ?_ (fun _ => ?_)

def spec_DrawInsertItem.e (k : Nat) : Refl.Ent G := ⟨63, [(.c (.row 5 false))], .tup [(.agg gL4), (.c li), (.c .str)], fun x => spec_DrawInsertItem.f k x⟩
theorem spec_DrawInsertItem.ok (k : Nat) : Refl.EntOK Tryz.prog (spec_DrawInsertItem.e k) := Refl.ent_ok 1000000 k GC (fun k => [spec_l1Cur_desk.e k, spec_l1Cur_itemPlace.e k, spec_l1Cur_anyGloss.e k]) (fun k => ⟨spec_l1Cur_desk.ok k, spec_l1Cur_itemPlace.ok k, spec_l1Cur_anyGloss.ok k, trivial⟩) Tryz.func63 (by kernel_rfl) [] (ps := []) (by kernel_rfl) trivial (fun x => by kernel_rfl)

/-! ### spec_DrawReplaceItem: function 19 -/

def spec_DrawReplaceItem.f (k : Nat) (l0 : List Int) : Option (List ByteArray × (List (S25)) × (List (S25)) × Int × ByteArray) := (spec_DrawInsertItem.f k l0).bind fun bt763 => (some (bt763.1, bt763.2.1, bt763.2.2.1, bt763.2.2.2.1, bt763.2.2.2.2))

theorem spec_DrawReplaceItem.mono : ∀ a0 k, LeO (spec_DrawReplaceItem.f k a0) (spec_DrawReplaceItem.f (k + 1) a0) := by
  intro a0 k
  unfold spec_DrawReplaceItem.f
  repeat' first
      | (with_reducible exact spec_DrawInsertItem.mono _ _)
      | (with_reducible exact LeO.refl _)
      | (with_reducible exact LeO.none _)
      | (with_reducible refine LeO.ite ?_ ?_)
      | (with_reducible refine LeO.bind ?_ (fun _ => ?_))
      | exact spec_DrawInsertItem.mono _ _
      | exact LeO.none _
      | refine LeO.ite ?_ ?_
      | refine LeO.bind ?_ (fun _ => ?_)

def spec_DrawReplaceItem.e (k : Nat) : Refl.Ent G := ⟨19, [(.c (.row 5 false))], .tup [(.agg gL4), (.c li), (.c .str)], fun x => spec_DrawReplaceItem.f k x⟩
theorem spec_DrawReplaceItem.ok (k : Nat) : Refl.EntOK Tryz.prog (spec_DrawReplaceItem.e k) := Refl.ent_ok 1000000 k GC (fun k => [spec_DrawInsertItem.e k]) (fun k => ⟨spec_DrawInsertItem.ok k, trivial⟩) Tryz.func19 (by kernel_rfl) [] (ps := []) (by kernel_rfl) trivial (fun x => by kernel_rfl)

/-! ### impl_ReplaceItem: function 20 -/

def rp1.f (l : List ByteArray) (a1 : Int) (a2 : ByteArray) : Option (Int × Int × ByteArray × ByteArray) := (impl_itemAt.f l a1).bind fun t => some (2, a1, a2, t)

def rp2.f (k : Nat) (l0_0 : List ByteArray) (l0_1 l0_2 : List S25) (a1 : Int) (a2 : ByteArray) : Option (List ByteArray × List S25 × List S25 × Bool) := (impl_ItemsNow.f k l0_0 l0_1 l0_2).bind fun bt => if bt.2 = true then (if (l0_1.length : Int) = 30 then some (([] : List ByteArray), ([] : List S25), ([] : List S25), false) else (slices_Clone_string_string.f l0_0).bind fun s => (impl_DeskEdit_69.f l0_1).bind fun d => (rp1.f bt.1 a1 a2).bind fun e => if d.length < 2932031007402 then ((impl_IsDesk.f k s (d ++ [(⟨e.1, e.2.1, e.2.2.1, e.2.2.2⟩ : S25)]) ([] : List S25)).bind fun t => if t = true then some (s, d ++ [(⟨e.1, e.2.1, e.2.2.1, e.2.2.2⟩ : S25)], ([] : List S25), true) else some (([] : List ByteArray), ([] : List S25), ([] : List S25), false)) else none) else some (([] : List ByteArray), ([] : List S25), ([] : List S25), false)

def impl_ReplaceItem.f (k : Nat) (l0_0 : List ByteArray) (l0_1 l0_2 : List S25) (a1 : Int) (a2 : ByteArray) : Option (List ByteArray × List S25 × List S25 × Bool) := (rp2.f k l0_0 l0_1 l0_2 a1 a2).bind fun b => some (b.1, b.2.1, b.2.2.1, b.2.2.2)

theorem rp2.mono : ∀ l0 l1 l2 a1 a2 k, LeO (rp2.f k l0 l1 l2 a1 a2) (rp2.f (k + 1) l0 l1 l2 a1 a2) := by
  intro l0 l1 l2 a1 a2 k
  unfold rp2.f
  repeat' first
  | (with_reducible exact impl_ItemsNow.mono _ _ _ _)
  | (with_reducible exact impl_IsDesk.mono _ _ _ _)
  | exact LeO.refl _
  | exact LeO.none _
  | refine LeO.ite ?_ ?_
  | refine LeO.bind ?_ (fun _ => ?_)

theorem impl_ReplaceItem.mono : ∀ l0 l1 l2 a1 a2 k, LeO (impl_ReplaceItem.f k l0 l1 l2 a1 a2) (impl_ReplaceItem.f (k + 1) l0 l1 l2 a1 a2) := fun l0 l1 l2 a1 a2 k => LeO.bind (rp2.mono l0 l1 l2 a1 a2 k) (fun _ => LeO.refl _)

def impl_ReplaceItem.e (k : Nat) : Refl.Ent G := ⟨20, [(.agg gL4), (.c li), (.c .str)], .tup [(.agg gL6), (.c .bool)], fun x => impl_ReplaceItem.f k x.1 x.2.1 x.2.2.1 x.2.2.2.1 x.2.2.2.2⟩
def rp1.e (k : Nat) : Refl.Ent G := ⟨64, [.c (.row 9 false), .ref [li], .ref [.str]], .one (.agg [li, li, .str, .str]), fun x => rp1.f x.1 x.2.1 x.2.2⟩
theorem rp1.ok (k : Nat) : Refl.EntOK Tryz.prog (rp1.e k) := Refl.ent_ok 1000000 k GC (fun k => [impl_itemAt.e k]) (fun k => ⟨impl_itemAt.ok k, trivial⟩) Tryz.func64 (by kernel_rfl) [] (ps := []) (by kernel_rfl) trivial (fun x => by kernel_rfl)
def rp2.e (k : Nat) : Refl.Ent G := ⟨52, [.agg [.row 9 false, .row 25 false, .row 25 false], .clo 64 [[li], [.str]]], .tup [.agg [.row 9 true, .row 25 true, .row 25 true], .c .bool], fun x => rp2.f k x.1 x.2.1 x.2.2.1 x.2.2.2.1 x.2.2.2.2⟩
theorem rp2.ok (k : Nat) : Refl.EntOK Tryz.prog (rp2.e k) := Refl.ent_ok 1000000 k GC (fun k => [impl_ItemsNow.e k, slices_Clone_string_string.e k, impl_DeskEdit_69.e k, rp1.e k, impl_IsDesk.e k]) (fun k => ⟨impl_ItemsNow.ok k, slices_Clone_string_string.ok k, impl_DeskEdit_69.ok k, rp1.ok k, impl_IsDesk.ok k, trivial⟩) Tryz.func52 (by kernel_rfl) [] (ps := []) (by kernel_rfl) trivial (fun x => by kernel_rfl)
theorem impl_ReplaceItem.ok (k : Nat) : Refl.EntOK Tryz.prog (impl_ReplaceItem.e k) := Refl.ent_ok 1000000 k GC (fun k => [rp2.e k]) (fun k => ⟨rp2.ok k, trivial⟩) Tryz.func20 (by kernel_rfl) [] (ps := []) (by kernel_rfl) trivial (fun x => by kernel_rfl)

/-! ### spec_DrawForgetEdits: function 22 -/

def spec_DrawForgetEdits.f (k : Nat) (l0 : List Int) : Option (List ByteArray × (List (S25)) × (List (S25)) × Int) := (spec_l1Cur_desk.f k l0 0 0).bind fun bt776 => ((spec_l1Cur_pick.f bt776.2.2.2.1 bt776.2.2.2.2.1 bt776.2.2.2.2.2 (wrap64 ((bt776.2.1.length : Int) + 1))).bind fun bt789 => ((spec_l1Cur_among.f bt789.2.1 bt789.2.2.1 bt789.2.2.2 (([0, (bt776.2.1.length : Int), bt789.1, 1, wrap64 ((bt776.2.1.length : Int) + 1), (-1)] : List Int))).bind fun bt796 => (some (bt776.1, bt776.2.1, bt776.2.2.1, bt796.1))))

theorem spec_DrawForgetEdits.mono : ∀ a0 k, LeO (spec_DrawForgetEdits.f k a0) (spec_DrawForgetEdits.f (k + 1) a0) := by
  intro a0 k
  unfold spec_DrawForgetEdits.f
  repeat' first
      | (with_reducible exact spec_l1Cur_desk.mono _ _ _ _)
      | (with_reducible exact LeO.refl _)
      | (with_reducible exact LeO.none _)
      | (with_reducible refine LeO.ite ?_ ?_)
      | (with_reducible refine LeO.bind ?_ (fun _ => ?_))
      | exact spec_l1Cur_desk.mono _ _ _ _
      | exact LeO.none _
      | refine LeO.ite ?_ ?_
      | refine LeO.bind ?_ (fun _ => ?_)

def spec_DrawForgetEdits.e (k : Nat) : Refl.Ent G := ⟨22, [(.c (.row 5 false))], .tup [(.agg gL4), (.c li)], fun x => spec_DrawForgetEdits.f k x⟩
def spec_DrawForgetEdits.E_ (X_spec_l1Cur_desk : type_of% @spec_l1Cur_desk.f) (X_spec_l1Cur_pick : type_of% @spec_l1Cur_pick.f) (X_spec_l1Cur_among : type_of% @spec_l1Cur_among.f) (k : Nat) : List (Refl.Ent G) := [⟨50, [(.wr 1000000 66 gL0)], .one (.agg gL4), fun x => X_spec_l1Cur_desk k x.1 x.2.1 x.2.2⟩, ⟨67, [(.wr 1000000 66 gL0), (.c li)], .one (.c li), fun x => X_spec_l1Cur_pick x.1 x.2.1 x.2.2.1 x.2.2.2⟩, ⟨66, [(.wr 1000000 66 gL0), (.c (.row 3 false))], .one (.c li), fun x => X_spec_l1Cur_among x.1 x.2.1 x.2.2.1 x.2.2.2⟩]
def spec_DrawForgetEdits.B_f (X_spec_l1Cur_desk : type_of% @spec_l1Cur_desk.f) (X_spec_l1Cur_pick : type_of% @spec_l1Cur_pick.f) (X_spec_l1Cur_among : type_of% @spec_l1Cur_among.f) (k : Nat) (l0 : List Int) : Option (List ByteArray × (List (S25)) × (List (S25)) × Int) := (X_spec_l1Cur_desk k l0 0 0).bind fun bt776 => ((X_spec_l1Cur_pick bt776.2.2.2.1 bt776.2.2.2.2.1 bt776.2.2.2.2.2 (wrap64 ((bt776.2.1.length : Int) + 1))).bind fun bt789 => ((X_spec_l1Cur_among bt789.2.1 bt789.2.2.1 bt789.2.2.2 (([0, (bt776.2.1.length : Int), bt789.1, 1, wrap64 ((bt776.2.1.length : Int) + 1), (-1)] : List Int))).bind fun bt796 => (some (bt776.1, bt776.2.1, bt776.2.2.1, bt796.1))))
theorem spec_DrawForgetEdits.T_f (X_spec_l1Cur_desk : type_of% @spec_l1Cur_desk.f) (X_spec_l1Cur_pick : type_of% @spec_l1Cur_pick.f) (X_spec_l1Cur_among : type_of% @spec_l1Cur_among.f) (k : Nat) (x) : spec_DrawForgetEdits.B_f X_spec_l1Cur_desk X_spec_l1Cur_pick X_spec_l1Cur_among k x = Refl.run Tryz.f22 (spec_DrawForgetEdits.E_ X_spec_l1Cur_desk X_spec_l1Cur_pick X_spec_l1Cur_among) (spec_DrawForgetEdits.e k).args (spec_DrawForgetEdits.e k).res [] k x := by kernel_rfl
theorem spec_DrawForgetEdits.ok (k : Nat) : Refl.EntOK Tryz.prog (spec_DrawForgetEdits.e k) := Refl.ent_ok 1000000 k GC (fun k => [spec_l1Cur_desk.e k, spec_l1Cur_pick.e k, spec_l1Cur_among.e k]) (fun k => ⟨spec_l1Cur_desk.ok k, spec_l1Cur_pick.ok k, spec_l1Cur_among.ok k, trivial⟩) Tryz.func22 (by kernel_rfl) [] (ps := []) (by kernel_rfl) trivial (fun x => Eq.trans (by kernel_rfl) (Eq.trans (spec_DrawForgetEdits.T_f spec_l1Cur_desk.f spec_l1Cur_pick.f spec_l1Cur_among.f k x) (by kernel_rfl)))

/-! ### impl_ForgetEdits: function 23 -/

def impl_ForgetEdits.j0 : Nat → Int → Bool → List ByteArray → List (S25) → List (S25) → Option (List ByteArray × (List (S25)) × (List (S25)) × Bool)
  | 0, _, _, _, _, _ => none
  | k + 1, x1, x18, x801000, x801001, x801002 => if x18 = true then (some (([] : List ByteArray), ([] : List (S25)), ([] : List (S25)), false)) else (if 0 ≤ x1 then (if x1 ≤ (x801001.length : Int) then ((impl_made.f k x801000 (x801001.take (x1 : Int).toNat)).bind fun bt808 => (if 0 ≤ x1 then (if x1 ≤ (x801001.length : Int) then ((impl_DeskEdit_69.f (x801001.drop (x1 : Int).toNat)).bind fun t816 => ((impl_DeskEdit_69.f x801002).bind fun t819 => (some (bt808.1, t816, t819, true)))) else (none)) else (none))) else (none)) else (none))

def impl_ForgetEdits.f (k : Nat) (l0_0 : List ByteArray) (l0_1 : List (S25)) (l0_2 : List (S25)) (a1 : Int) : Option (List ByteArray × (List (S25)) × (List (S25)) × Bool) := (impl_IsDesk.f k l0_0 l0_1 l0_2).bind fun t802 => (if t802 = true then ((impl_within.f a1 0 (l0_1.length : Int)).bind fun t803 => (impl_ForgetEdits.j0 k a1 (!t803) l0_0 l0_1 l0_2)) else (impl_ForgetEdits.j0 k a1 true l0_0 l0_1 l0_2))

theorem impl_ForgetEdits.mono_l : ∀ k, (∀ y0 y1 y2 y3 y4, LeO (impl_ForgetEdits.j0 k y0 y1 y2 y3 y4) (impl_ForgetEdits.j0 (k + 1) y0 y1 y2 y3 y4))
  | 0 => fun _ _ _ _ _ r h => by simp [impl_ForgetEdits.j0] at h
  | k + 1 => by
    have ih0 := impl_ForgetEdits.mono_l k
    · intro y0 y1 y2 y3 y4
      unfold impl_ForgetEdits.j0
      repeat' first
      | (with_reducible exact ih0 _ _ _ _ _)
      | (with_reducible exact impl_IsDesk.mono _ _ _ _)
      | (with_reducible exact impl_made.mono _ _ _)
      | (with_reducible exact LeO.refl _)
      | (with_reducible exact LeO.none _)
      | (with_reducible refine LeO.ite ?_ ?_)
      | (with_reducible refine LeO.bind ?_ (fun _ => ?_))
      | exact ih0 _ _ _ _ _
      | exact impl_IsDesk.mono _ _ _ _
      | exact impl_made.mono _ _ _
      | exact LeO.none _
      | refine LeO.ite ?_ ?_
      | refine LeO.bind ?_ (fun _ => ?_)

theorem impl_ForgetEdits.mono : ∀ a0 a1 a2 a3 k, LeO (impl_ForgetEdits.f k a0 a1 a2 a3) (impl_ForgetEdits.f (k + 1) a0 a1 a2 a3) := by
  intro a0 a1 a2 a3 k
  have ih0 := impl_ForgetEdits.mono_l k
  unfold impl_ForgetEdits.f
  repeat' first
      | (with_reducible exact ih0 _ _ _ _ _)
      | (with_reducible exact impl_IsDesk.mono _ _ _ _)
      | (with_reducible exact impl_made.mono _ _ _)
      | (with_reducible exact LeO.refl _)
      | (with_reducible exact LeO.none _)
      | (with_reducible refine LeO.ite ?_ ?_)
      | (with_reducible refine LeO.bind ?_ (fun _ => ?_))
      | exact ih0 _ _ _ _ _
      | exact impl_IsDesk.mono _ _ _ _
      | exact impl_made.mono _ _ _
      | exact LeO.none _
      | refine LeO.ite ?_ ?_
      | refine LeO.bind ?_ (fun _ => ?_)

def impl_ForgetEdits.e (k : Nat) : Refl.Ent G := ⟨23, [(.agg gL4), (.c li)], .tup [(.agg gL6), (.c .bool)], fun x => impl_ForgetEdits.f k x.1 x.2.1 x.2.2.1 x.2.2.2⟩
def impl_ForgetEdits.pj0 : Refl.Pn G (Refl.PT G (impl_ForgetEdits.e 0).ol) := ⟨false, 1000001, ⟨[(1, .v (.c li)), (18, .v (.c .bool)), (2, .box 2 0), (4, .box 4 0), (5, .k (Value.bool false))], [(2, 34, gL5), (4, 34, gL7)]⟩, fun k x => impl_ForgetEdits.j0 k x.1 x.2.1 x.2.2.1 x.2.2.2.1 x.2.2.2.2⟩
theorem impl_ForgetEdits.ok (k : Nat) : Refl.EntOK Tryz.prog (impl_ForgetEdits.e k) := Refl.ent_ok 1000000 k GC (fun k => [impl_IsDesk.e k, impl_within.e k, impl_made.e k, impl_DeskEdit_69.e k]) (fun k => ⟨impl_IsDesk.ok k, impl_within.ok k, impl_made.ok k, impl_DeskEdit_69.ok k, trivial⟩) Tryz.func23 (by kernel_rfl) [impl_ForgetEdits.pj0] (ps := [impl_ForgetEdits.pj0]) (by kernel_rfl) ⟨⟨fun x => by kernel_rfl, fun k x => by kernel_rfl⟩, trivial⟩ (fun x => by kernel_rfl)

/-! ### spec_ForgetEdits: function 24 -/

def spec_ForgetEdits.j0 : Nat → Int → Bool → List ByteArray → List (S25) → List (S25) → Option (List ByteArray × (List (S25)) × (List (S25)) × Bool)
  | 0, _, _, _, _, _ => none
  | k + 1, x1, x19, x823000, x823001, x823002 => if x19 = true then (some (([] : List ByteArray), ([] : List (S25)), ([] : List (S25)), false)) else (if 0 ≤ x1 then (if x1 ≤ (x823001.length : Int) then ((spec_unDesk.f x823000 x823001 x823002 (x823001.drop (x1 : Int).toNat) x823002).bind fun bt830 => (if 0 ≤ x1 then (if x1 ≤ (x823001.length : Int) then ((spec_unAfter.f k x823000 (x823001.take (x1 : Int).toNat)).bind fun bt844 => (some (bt844.1, bt830.2.1, bt830.2.2, true))) else (none)) else (none))) else (none)) else (none))

def spec_ForgetEdits.f (k : Nat) (l0_0 : List ByteArray) (l0_1 : List (S25)) (l0_2 : List (S25)) (a1 : Int) : Option (List ByteArray × (List (S25)) × (List (S25)) × Bool) := (spec_unGood.f k l0_0 l0_1 l0_2).bind fun t824 => (if t824 = true then ((spec_l1In.f a1 0 (l0_1.length : Int)).bind fun t825 => (spec_ForgetEdits.j0 k a1 (!t825) l0_0 l0_1 l0_2)) else (spec_ForgetEdits.j0 k a1 true l0_0 l0_1 l0_2))

theorem spec_ForgetEdits.mono_l : ∀ k, (∀ y0 y1 y2 y3 y4, LeO (spec_ForgetEdits.j0 k y0 y1 y2 y3 y4) (spec_ForgetEdits.j0 (k + 1) y0 y1 y2 y3 y4))
  | 0 => fun _ _ _ _ _ r h => by simp [spec_ForgetEdits.j0] at h
  | k + 1 => by
    have ih0 := spec_ForgetEdits.mono_l k
    · intro y0 y1 y2 y3 y4
      unfold spec_ForgetEdits.j0
      repeat' first
      | (with_reducible exact ih0 _ _ _ _ _)
      | (with_reducible exact spec_unAfter.mono _ _ _)
      | (with_reducible exact spec_unGood.mono _ _ _ _)
      | (with_reducible exact LeO.refl _)
      | (with_reducible exact LeO.none _)
      | (with_reducible refine LeO.ite ?_ ?_)
      | (with_reducible refine LeO.bind ?_ (fun _ => ?_))
      | exact ih0 _ _ _ _ _
      | exact spec_unAfter.mono _ _ _
      | exact spec_unGood.mono _ _ _ _
      | exact LeO.none _
      | refine LeO.ite ?_ ?_
      | refine LeO.bind ?_ (fun _ => ?_)

theorem spec_ForgetEdits.mono : ∀ a0 a1 a2 a3 k, LeO (spec_ForgetEdits.f k a0 a1 a2 a3) (spec_ForgetEdits.f (k + 1) a0 a1 a2 a3) := by
  intro a0 a1 a2 a3 k
  have ih0 := spec_ForgetEdits.mono_l k
  unfold spec_ForgetEdits.f
  repeat' first
      | (with_reducible exact ih0 _ _ _ _ _)
      | (with_reducible exact spec_unAfter.mono _ _ _)
      | (with_reducible exact spec_unGood.mono _ _ _ _)
      | (with_reducible exact LeO.refl _)
      | (with_reducible exact LeO.none _)
      | (with_reducible refine LeO.ite ?_ ?_)
      | (with_reducible refine LeO.bind ?_ (fun _ => ?_))
      | exact ih0 _ _ _ _ _
      | exact spec_unAfter.mono _ _ _
      | exact spec_unGood.mono _ _ _ _
      | exact LeO.none _
      | refine LeO.ite ?_ ?_
      | refine LeO.bind ?_ (fun _ => ?_)

def spec_ForgetEdits.e (k : Nat) : Refl.Ent G := ⟨24, [(.agg gL4), (.c li)], .tup [(.agg gL6), (.c .bool)], fun x => spec_ForgetEdits.f k x.1 x.2.1 x.2.2.1 x.2.2.2⟩
def spec_ForgetEdits.pj0 : Refl.Pn G (Refl.PT G (spec_ForgetEdits.e 0).ol) := ⟨false, 1000001, ⟨[(1, .v (.c li)), (19, .v (.c .bool)), (2, .box 2 0), (4, .box 4 0), (5, .k (Value.bool false))], [(2, 34, gL5), (4, 34, gL7)]⟩, fun k x => spec_ForgetEdits.j0 k x.1 x.2.1 x.2.2.1 x.2.2.2.1 x.2.2.2.2⟩
theorem spec_ForgetEdits.ok (k : Nat) : Refl.EntOK Tryz.prog (spec_ForgetEdits.e k) := Refl.ent_ok 1000000 k GC (fun k => [spec_unGood.e k, spec_l1In.e k, spec_unDesk.e k, spec_unAfter.e k]) (fun k => ⟨spec_unGood.ok k, spec_l1In.ok k, spec_unDesk.ok k, spec_unAfter.ok k, trivial⟩) Tryz.func24 (by kernel_rfl) [spec_ForgetEdits.pj0] (ps := [spec_ForgetEdits.pj0]) (by kernel_rfl) ⟨⟨fun x => by kernel_rfl, fun k x => by kernel_rfl⟩, trivial⟩ (fun x => by kernel_rfl)

/-! ### spec_DrawItemsAfter: function 25 -/

def spec_DrawItemsAfter.f (k : Nat) (l0 : List Int) : Option (List ByteArray × (List (S25)) × (List (S25)) × Int) := (spec_l1Cur_desk.f k l0 0 0).bind fun bt850 => ((spec_l1Cur_pick.f bt850.2.2.2.1 bt850.2.2.2.2.1 bt850.2.2.2.2.2 (wrap64 ((wrap64 ((bt850.2.1.length : Int) + (bt850.2.2.1.length : Int))) + 1))).bind fun bt863 => ((spec_l1Cur_among.f bt863.2.1 bt863.2.2.1 bt863.2.2.2 (([0, wrap64 ((bt850.2.1.length : Int) + (bt850.2.2.1.length : Int)), bt863.1, (bt850.2.1.length : Int), wrap64 ((wrap64 ((bt850.2.1.length : Int) + (bt850.2.2.1.length : Int))) + 1), (-1)] : List Int))).bind fun bt870 => (some (bt850.1, bt850.2.1, bt850.2.2.1, bt870.1))))

theorem spec_DrawItemsAfter.mono : ∀ a0 k, LeO (spec_DrawItemsAfter.f k a0) (spec_DrawItemsAfter.f (k + 1) a0) := by
  intro a0 k
  unfold spec_DrawItemsAfter.f
  repeat' first
      | (with_reducible exact spec_l1Cur_desk.mono _ _ _ _)
      | (with_reducible exact LeO.refl _)
      | (with_reducible exact LeO.none _)
      | (with_reducible refine LeO.ite ?_ ?_)
      | (with_reducible refine LeO.bind ?_ (fun _ => ?_))
      | exact spec_l1Cur_desk.mono _ _ _ _
      | exact LeO.none _
      | refine LeO.ite ?_ ?_
      | refine LeO.bind ?_ (fun _ => ?_)

def spec_DrawItemsAfter.e (k : Nat) : Refl.Ent G := ⟨25, [(.c (.row 5 false))], .tup [(.agg gL4), (.c li)], fun x => spec_DrawItemsAfter.f k x⟩
def spec_DrawItemsAfter.E_ (X_spec_l1Cur_desk : type_of% @spec_l1Cur_desk.f) (X_spec_l1Cur_pick : type_of% @spec_l1Cur_pick.f) (X_spec_l1Cur_among : type_of% @spec_l1Cur_among.f) (k : Nat) : List (Refl.Ent G) := [⟨50, [(.wr 1000000 66 gL0)], .one (.agg gL4), fun x => X_spec_l1Cur_desk k x.1 x.2.1 x.2.2⟩, ⟨67, [(.wr 1000000 66 gL0), (.c li)], .one (.c li), fun x => X_spec_l1Cur_pick x.1 x.2.1 x.2.2.1 x.2.2.2⟩, ⟨66, [(.wr 1000000 66 gL0), (.c (.row 3 false))], .one (.c li), fun x => X_spec_l1Cur_among x.1 x.2.1 x.2.2.1 x.2.2.2⟩]
def spec_DrawItemsAfter.B_f (X_spec_l1Cur_desk : type_of% @spec_l1Cur_desk.f) (X_spec_l1Cur_pick : type_of% @spec_l1Cur_pick.f) (X_spec_l1Cur_among : type_of% @spec_l1Cur_among.f) (k : Nat) (l0 : List Int) : Option (List ByteArray × (List (S25)) × (List (S25)) × Int) := (X_spec_l1Cur_desk k l0 0 0).bind fun bt850 => ((X_spec_l1Cur_pick bt850.2.2.2.1 bt850.2.2.2.2.1 bt850.2.2.2.2.2 (wrap64 ((wrap64 ((bt850.2.1.length : Int) + (bt850.2.2.1.length : Int))) + 1))).bind fun bt863 => ((X_spec_l1Cur_among bt863.2.1 bt863.2.2.1 bt863.2.2.2 (([0, wrap64 ((bt850.2.1.length : Int) + (bt850.2.2.1.length : Int)), bt863.1, (bt850.2.1.length : Int), wrap64 ((wrap64 ((bt850.2.1.length : Int) + (bt850.2.2.1.length : Int))) + 1), (-1)] : List Int))).bind fun bt870 => (some (bt850.1, bt850.2.1, bt850.2.2.1, bt870.1))))
theorem spec_DrawItemsAfter.T_f (X_spec_l1Cur_desk : type_of% @spec_l1Cur_desk.f) (X_spec_l1Cur_pick : type_of% @spec_l1Cur_pick.f) (X_spec_l1Cur_among : type_of% @spec_l1Cur_among.f) (k : Nat) (x) : spec_DrawItemsAfter.B_f X_spec_l1Cur_desk X_spec_l1Cur_pick X_spec_l1Cur_among k x = Refl.run Tryz.f25 (spec_DrawItemsAfter.E_ X_spec_l1Cur_desk X_spec_l1Cur_pick X_spec_l1Cur_among) (spec_DrawItemsAfter.e k).args (spec_DrawItemsAfter.e k).res [] k x := by kernel_rfl
theorem spec_DrawItemsAfter.ok (k : Nat) : Refl.EntOK Tryz.prog (spec_DrawItemsAfter.e k) := Refl.ent_ok 1000000 k GC (fun k => [spec_l1Cur_desk.e k, spec_l1Cur_pick.e k, spec_l1Cur_among.e k]) (fun k => ⟨spec_l1Cur_desk.ok k, spec_l1Cur_pick.ok k, spec_l1Cur_among.ok k, trivial⟩) Tryz.func25 (by kernel_rfl) [] (ps := []) (by kernel_rfl) trivial (fun x => Eq.trans (by kernel_rfl) (Eq.trans (spec_DrawItemsAfter.T_f spec_l1Cur_desk.f spec_l1Cur_pick.f spec_l1Cur_among.f k x) (by kernel_rfl)))

/-! ### spec_ItemsAfter: function 27 -/

def spec_ItemsAfter.j0 : Nat → Int → Bool → List ByteArray → List (S25) → List (S25) → Option (List ByteArray × Bool)
  | 0, _, _, _, _, _ => none
  | k + 1, x1, x22, x875000, x875001, x875002 => if x22 = true then (some (([] : List ByteArray), false)) else ((spec_unAll.f k x875000 x875001 x875002).bind fun t877 => (if 0 ≤ x1 then (if x1 ≤ (t877.length : Int) then ((spec_unAfter.f k x875000 (t877.take (x1 : Int).toNat)).bind fun bt884 => (some (bt884.1, true))) else (none)) else (none)))

def spec_ItemsAfter.f (k : Nat) (l0_0 : List ByteArray) (l0_1 : List (S25)) (l0_2 : List (S25)) (a1 : Int) : Option (List ByteArray × Bool) := (spec_unGood.f k l0_0 l0_1 l0_2).bind fun t875 => (if t875 = true then ((spec_l1In.f a1 0 (wrap64 ((l0_1.length : Int) + (l0_2.length : Int)))).bind fun t876 => (spec_ItemsAfter.j0 k a1 (!t876) l0_0 l0_1 l0_2)) else (spec_ItemsAfter.j0 k a1 true l0_0 l0_1 l0_2))

theorem spec_ItemsAfter.mono_l : ∀ k, (∀ y0 y1 y2 y3 y4, LeO (spec_ItemsAfter.j0 k y0 y1 y2 y3 y4) (spec_ItemsAfter.j0 (k + 1) y0 y1 y2 y3 y4))
  | 0 => fun _ _ _ _ _ r h => by simp [spec_ItemsAfter.j0] at h
  | k + 1 => by
    have ih0 := spec_ItemsAfter.mono_l k
    · intro y0 y1 y2 y3 y4
      unfold spec_ItemsAfter.j0
      repeat' first
      | (with_reducible exact ih0 _ _ _ _ _)
      | (with_reducible exact spec_unAfter.mono _ _ _)
      | (with_reducible exact spec_unAll.mono _ _ _ _)
      | (with_reducible exact spec_unGood.mono _ _ _ _)
      | (with_reducible exact LeO.refl _)
      | (with_reducible exact LeO.none _)
      | (with_reducible refine LeO.ite ?_ ?_)
      | (with_reducible refine LeO.bind ?_ (fun _ => ?_))
      | exact ih0 _ _ _ _ _
      | exact spec_unAfter.mono _ _ _
      | exact spec_unAll.mono _ _ _ _
      | exact spec_unGood.mono _ _ _ _
      | exact LeO.none _
      | refine LeO.ite ?_ ?_
      | refine LeO.bind ?_ (fun _ => ?_)

theorem spec_ItemsAfter.mono : ∀ a0 a1 a2 a3 k, LeO (spec_ItemsAfter.f k a0 a1 a2 a3) (spec_ItemsAfter.f (k + 1) a0 a1 a2 a3) := by
  intro a0 a1 a2 a3 k
  have ih0 := spec_ItemsAfter.mono_l k
  unfold spec_ItemsAfter.f
  repeat' first
      | (with_reducible exact ih0 _ _ _ _ _)
      | (with_reducible exact spec_unAfter.mono _ _ _)
      | (with_reducible exact spec_unAll.mono _ _ _ _)
      | (with_reducible exact spec_unGood.mono _ _ _ _)
      | (with_reducible exact LeO.refl _)
      | (with_reducible exact LeO.none _)
      | (with_reducible refine LeO.ite ?_ ?_)
      | (with_reducible refine LeO.bind ?_ (fun _ => ?_))
      | exact ih0 _ _ _ _ _
      | exact spec_unAfter.mono _ _ _
      | exact spec_unAll.mono _ _ _ _
      | exact spec_unGood.mono _ _ _ _
      | exact LeO.none _
      | refine LeO.ite ?_ ?_
      | refine LeO.bind ?_ (fun _ => ?_)

def spec_ItemsAfter.e (k : Nat) : Refl.Ent G := ⟨27, [(.agg gL4), (.c li)], .tup [(.c (.row 9 true)), (.c .bool)], fun x => spec_ItemsAfter.f k x.1 x.2.1 x.2.2.1 x.2.2.2⟩
def spec_ItemsAfter.pj0 : Refl.Pn G (Refl.PT G (spec_ItemsAfter.e 0).ol) := ⟨false, 1000001, ⟨[(1, .v (.c li)), (22, .v (.c .bool)), (2, .box 2 0), (5, .k (Value.bool false))], [(2, 34, gL5)]⟩, fun k x => spec_ItemsAfter.j0 k x.1 x.2.1 x.2.2.1 x.2.2.2.1 x.2.2.2.2⟩
theorem spec_ItemsAfter.ok (k : Nat) : Refl.EntOK Tryz.prog (spec_ItemsAfter.e k) := Refl.ent_ok 1000000 k GC (fun k => [spec_unGood.e k, spec_l1In.e k, spec_unAll.e k, spec_unAfter.e k]) (fun k => ⟨spec_unGood.ok k, spec_l1In.ok k, spec_unAll.ok k, spec_unAfter.ok k, trivial⟩) Tryz.func27 (by kernel_rfl) [spec_ItemsAfter.pj0] (ps := [spec_ItemsAfter.pj0]) (by kernel_rfl) ⟨⟨fun x => by kernel_rfl, fun k x => by kernel_rfl⟩, trivial⟩ (fun x => by kernel_rfl)

/-! ### spec_DrawStartDesk: function 28 -/

def spec_DrawStartDesk.f (k : Nat) (l0 : List Int) : Option (List ByteArray) := (spec_l1Cur_items.f k l0 0 0).bind fun bt889 => (some bt889.1)

theorem spec_DrawStartDesk.mono : ∀ a0 k, LeO (spec_DrawStartDesk.f k a0) (spec_DrawStartDesk.f (k + 1) a0) := by
  intro a0 k
  unfold spec_DrawStartDesk.f
  repeat' first
      | (with_reducible exact spec_l1Cur_items.mono _ _ _ _)
      | (with_reducible exact LeO.refl _)
      | (with_reducible exact LeO.none _)
      | (with_reducible refine LeO.ite ?_ ?_)
      | (with_reducible refine LeO.bind ?_ (fun _ => ?_))
      | exact spec_l1Cur_items.mono _ _ _ _
      | exact LeO.none _
      | refine LeO.ite ?_ ?_
      | refine LeO.bind ?_ (fun _ => ?_)

def spec_DrawStartDesk.e (k : Nat) : Refl.Ent G := ⟨28, [(.c (.row 5 false))], .one (.c (.row 9 false)), fun x => spec_DrawStartDesk.f k x⟩
theorem spec_DrawStartDesk.ok (k : Nat) : Refl.EntOK Tryz.prog (spec_DrawStartDesk.e k) := Refl.ent_ok 1000000 k GC (fun k => [spec_l1Cur_items.e k]) (fun k => ⟨spec_l1Cur_items.ok k, trivial⟩) Tryz.func28 (by kernel_rfl) [] (ps := []) (by kernel_rfl) trivial (fun x => by kernel_rfl)

/-! ### impl_StartDesk: function 29 -/

def impl_StartDesk.f (k : Nat) (l0 : List ByteArray) : Option (List ByteArray × (List (S25)) × (List (S25)) × Bool) := (impl_areItems.f k l0).bind fun t896 => (if t896 = true then ((slices_Clone_string_string.f l0).bind fun t897 => (some (t897, ([] : List (S25)), ([] : List (S25)), true))) else (some (([] : List ByteArray), ([] : List (S25)), ([] : List (S25)), false)))

theorem impl_StartDesk.mono : ∀ a0 k, LeO (impl_StartDesk.f k a0) (impl_StartDesk.f (k + 1) a0) := by
  intro a0 k
  unfold impl_StartDesk.f
  repeat' first
      | (with_reducible exact impl_areItems.mono _ _)
      | (with_reducible exact LeO.refl _)
      | (with_reducible exact LeO.none _)
      | (with_reducible refine LeO.ite ?_ ?_)
      | (with_reducible refine LeO.bind ?_ (fun _ => ?_))
      | exact impl_areItems.mono _ _
      | exact LeO.none _
      | refine LeO.ite ?_ ?_
      | refine LeO.bind ?_ (fun _ => ?_)

def impl_StartDesk.e (k : Nat) : Refl.Ent G := ⟨29, [(.c (.row 9 false))], .tup [(.agg gL6), (.c .bool)], fun x => impl_StartDesk.f k x⟩
theorem impl_StartDesk.ok (k : Nat) : Refl.EntOK Tryz.prog (impl_StartDesk.e k) := Refl.ent_ok 1000000 k GC (fun k => [impl_areItems.e k, slices_Clone_string_string.e k]) (fun k => ⟨impl_areItems.ok k, slices_Clone_string_string.ok k, trivial⟩) Tryz.func29 (by kernel_rfl) [] (ps := []) (by kernel_rfl) trivial (fun x => by kernel_rfl)

/-! ### laws_FnEdits: function 3 -/

mutual
def laws_FnEdits.j0 : Nat → List Int → Bool → Bool → Int → Int → ByteArray → ByteArray → Int → Int → ByteArray → ByteArray → Option (Bool)
  | 0, _, _, _, _, _, _, _, _, _, _, _ => none
  | k + 1, x1, x7, x107, x906000, x906001, x906002, x906003, x912000, x912001, x912002, x912003 => if x107 = true then (some false) else (if x7 = true then ((impl_InverseEdit.f k x912000 x912001 x912002 x912003).bind fun bt922 => (if bt922.2.2.2.2 = true then (if ((bt922.1 == x906000 && (bt922.2.1 == x906001 && (bt922.2.2.1.toList == x906002.toList && (bt922.2.2.2.1.toList == x906003.toList)))) = true) then (laws_FnEdits.j1 k x1) else (some false)) else (some false))) else (laws_FnEdits.j1 k x1))
def laws_FnEdits.j1 : Nat → List Int → Option (Bool)
  | 0, _ => none
  | k + 1, x1 => (spec_DrawDeleteItem.f k x1).bind fun bt928 => ((impl_DeleteItem.f k bt928.1 bt928.2.1 bt928.2.2.1 bt928.2.2.2).bind fun bt939 => ((spec_DeleteItem.f k bt928.1 bt928.2.1 bt928.2.2.1 bt928.2.2.2).bind fun bt950 => (if ((bt939.2.2.2 == bt950.2.2.2) = true) then ((laws_pSameDesk.f k bt939.1 bt939.2.1 bt939.2.2.1 bt950.1 bt950.2.1 bt950.2.2.1).bind fun t961 => (laws_FnEdits.j2 k x1 bt939.2.2.2 (!t961) bt928.1 bt928.2.1 bt928.2.2.1 bt939.1 bt939.2.1 bt939.2.2.1 bt950.1 bt950.2.1 bt950.2.2.1)) else (laws_FnEdits.j2 k x1 bt939.2.2.2 true bt928.1 bt928.2.1 bt928.2.2.1 bt939.1 bt939.2.1 bt939.2.2.1 bt950.1 bt950.2.1 bt950.2.2.1))))
def laws_FnEdits.j2 : Nat → List Int → Bool → Bool → List ByteArray → List (S25) → List (S25) → List ByteArray → List (S25) → List (S25) → List ByteArray → List (S25) → List (S25) → Option (Bool)
  | 0, _, _, _, _, _, _, _, _, _, _, _, _ => none
  | k + 1, x1, x19, x146, x939000, x939001, x939002, x950000, x950001, x950002, x961000, x961001, x961002 => if x146 = true then (some false) else (if x19 = true then ((spec_ItemsNow.f k x939000 x939001 x939002).bind fun bt962 => ((impl_ItemsNow.f k x950000 x950001 x950002).bind fun bt966 => ((spec_ItemsNow.f k x961000 x961001 x961002).bind fun bt970 => (if bt962.2 = true then (if bt966.2 = true then (if bt970.2 = true then ((laws_pSameTexts.f k bt966.1 bt970.1).bind fun t974 => (if t974 = true then (if (bt970.1.length : Int) = (wrap64 ((bt962.1.length : Int) - 1)) then ((impl_IsDesk.f k x950000 x950001 x950002).bind fun t975 => (if t975 = true then (laws_FnEdits.j3 k x1) else (some false))) else (some false)) else (some false))) else (some false)) else (some false)) else (some false))))) else (laws_FnEdits.j3 k x1))
def laws_FnEdits.j3 : Nat → List Int → Option (Bool)
  | 0, _ => none
  | k + 1, x1 => (spec_DrawReplaceItem.f k x1).bind fun bt976 => ((impl_ReplaceItem.f k bt976.1 bt976.2.1 bt976.2.2.1 bt976.2.2.2.1 bt976.2.2.2.2).bind fun bt988 => ((spec_ReplaceItem.f k bt976.1 bt976.2.1 bt976.2.2.1 bt976.2.2.2.1 bt976.2.2.2.2).bind fun bt999 => (if ((bt988.2.2.2 == bt999.2.2.2) = true) then ((laws_pSameDesk.f k bt988.1 bt988.2.1 bt988.2.2.1 bt999.1 bt999.2.1 bt999.2.2.1).bind fun t1010 => (laws_FnEdits.j4 k x1 bt976.2.2.2.1 bt976.2.2.2.2 bt988.2.2.2 (!t1010) bt988.1 bt988.2.1 bt988.2.2.1 bt999.1 bt999.2.1 bt999.2.2.1)) else (laws_FnEdits.j4 k x1 bt976.2.2.2.1 bt976.2.2.2.2 bt988.2.2.2 true bt988.1 bt988.2.1 bt988.2.2.1 bt999.1 bt999.2.1 bt999.2.2.1))))
def laws_FnEdits.j4 : Nat → List Int → Int → ByteArray → Bool → Bool → List ByteArray → List (S25) → List (S25) → List ByteArray → List (S25) → List (S25) → Option (Bool)
  | 0, _, _, _, _, _, _, _, _, _, _, _ => none
  | k + 1, x1, x29, x30, x32, x220, x999000, x999001, x999002, x1010000, x1010001, x1010002 => if x220 = true then (some false) else (if x32 = true then ((spec_ItemsNow.f k x1010000 x1010001 x1010002).bind fun bt1011 => ((impl_ItemsNow.f k x999000 x999001 x999002).bind fun bt1015 => (if bt1011.2 = true then (if bt1015.2 = true then ((laws_pSameTexts.f k bt1015.1 bt1011.1).bind fun t1019 => (if t1019 = true then (if 0 ≤ x29 then (if x29 < (bt1011.1.length : Int) then (if (rdOf ByteArray.empty bt1011.1 x29).toList = x30.toList then ((impl_IsDesk.f k x999000 x999001 x999002).bind fun t1021 => (if t1021 = true then (laws_FnEdits.j5 k x1) else (some false))) else (some false)) else (none)) else (none)) else (some false))) else (some false)) else (some false)))) else (laws_FnEdits.j5 k x1))
def laws_FnEdits.j5 : Nat → List Int → Option (Bool)
  | 0, _ => none
  | k + 1, x1 => (spec_DrawForgetEdits.f k x1).bind fun bt1022 => ((impl_ForgetEdits.f k bt1022.1 bt1022.2.1 bt1022.2.2.1 bt1022.2.2.2).bind fun bt1033 => ((spec_ForgetEdits.f k bt1022.1 bt1022.2.1 bt1022.2.2.1 bt1022.2.2.2).bind fun bt1044 => (if ((bt1033.2.2.2 == bt1044.2.2.2) = true) then ((laws_pSameDesk.f k bt1033.1 bt1033.2.1 bt1033.2.2.1 bt1044.1 bt1044.2.1 bt1044.2.2.1).bind fun t1055 => (laws_FnEdits.j6 k x1 bt1022.2.2.2 bt1033.2.2.2 (!t1055) bt1022.1 bt1022.2.1 bt1022.2.2.1 bt1033.1 bt1033.2.1 bt1033.2.2.1 bt1044.1 bt1044.2.1 bt1044.2.2.1)) else (laws_FnEdits.j6 k x1 bt1022.2.2.2 bt1033.2.2.2 true bt1022.1 bt1022.2.1 bt1022.2.2.1 bt1033.1 bt1033.2.1 bt1033.2.2.1 bt1044.1 bt1044.2.1 bt1044.2.2.1))))
def laws_FnEdits.j6 : Nat → List Int → Int → Bool → Bool → List ByteArray → List (S25) → List (S25) → List ByteArray → List (S25) → List (S25) → List ByteArray → List (S25) → List (S25) → Option (Bool)
  | 0, _, _, _, _, _, _, _, _, _, _, _, _, _ => none
  | k + 1, x1, x40, x42, x282, x1033000, x1033001, x1033002, x1044000, x1044001, x1044002, x1055000, x1055001, x1055002 => if x282 = true then (some false) else (if x42 = true then ((impl_ItemsNow.f k x1033000 x1033001 x1033002).bind fun bt1056 => ((impl_ItemsNow.f k x1044000 x1044001 x1044002).bind fun bt1060 => (if bt1056.2 = true then (if bt1060.2 = true then ((laws_pSameTexts.f k bt1056.1 bt1060.1).bind fun t1064 => (if t1064 = true then (if (x1055001.length : Int) = (wrap64 ((x1033001.length : Int) - x40)) then ((impl_IsDesk.f k x1044000 x1044001 x1044002).bind fun t1065 => (if t1065 = true then (laws_FnEdits.j7 k x1) else (some false))) else (some false)) else (some false))) else (some false)) else (some false)))) else (laws_FnEdits.j7 k x1))
def laws_FnEdits.j7 : Nat → List Int → Option (Bool)
  | 0, _ => none
  | k + 1, x1 => (spec_DrawItemsAfter.f k x1).bind fun bt1066 => ((impl_ItemsAfter.f k bt1066.1 bt1066.2.1 bt1066.2.2.1 bt1066.2.2.2).bind fun bt1077 => ((spec_ItemsAfter.f k bt1066.1 bt1066.2.1 bt1066.2.2.1 bt1066.2.2.2).bind fun bt1081 => ((spec_DrawStartDesk.f k x1).bind fun t1085 => ((impl_StartDesk.f k t1085).bind fun bt1088 => ((spec_StartDesk.f k t1085).bind fun bt1099 => (if (bt1077.2 == bt1081.2) = true then ((laws_pSameTexts.f k bt1077.1 bt1081.1).bind fun t1110 => (if t1110 = true then (if (bt1088.2.2.2 == bt1099.2.2.2) = true then ((laws_pSameDesk.f k bt1088.1 bt1088.2.1 bt1088.2.2.1 bt1099.1 bt1099.2.1 bt1099.2.2.1).bind fun t1111 => (if t1111 = true then (if bt1088.2.2.2 = true then ((laws_pSameTexts.f k bt1099.1 t1085).bind fun t1112 => (some t1112)) else (some true)) else (some false))) else (some false)) else (some false))) else (some false)))))))
end

def laws_FnEdits.f (k : Nat) (l0 : List Int) (l1 : List Int) : Option (Bool) := (laws_big.f l0 l1).bind fun t900 => (if t900 = true then (some true) else ((spec_DrawInverseEdit.f k l0).bind fun bt901 => ((impl_InverseEdit.f k bt901.1 bt901.2.1 bt901.2.2.1 bt901.2.2.2).bind fun bt906 => ((spec_InverseEdit.f k bt901.1 bt901.2.1 bt901.2.2.1 bt901.2.2.2).bind fun bt912 => ((impl_EditText.f k bt901.1 bt901.2.1 bt901.2.2.1 bt901.2.2.2).bind fun bt918 => ((spec_EditText.f k bt901.1 bt901.2.1 bt901.2.2.1 bt901.2.2.2).bind fun bt920 => (if ((bt906.2.2.2.2 == bt912.2.2.2.2) = true) then (if ((bt906.1 == bt912.1 && (bt906.2.1 == bt912.2.1 && (bt906.2.2.1.toList == bt912.2.2.1.toList && (bt906.2.2.2.1.toList == bt912.2.2.2.1.toList)))) = true) then (if ((bt918.2 == bt920.2) = true) then (if bt918.1.toList = bt920.1.toList then (laws_FnEdits.j0 k l1 bt906.2.2.2.2 (!(bt918.2 == bt906.2.2.2.2)) bt901.1 bt901.2.1 bt901.2.2.1 bt901.2.2.2 bt906.1 bt906.2.1 bt906.2.2.1 bt906.2.2.2.1) else (laws_FnEdits.j0 k l1 bt906.2.2.2.2 true bt901.1 bt901.2.1 bt901.2.2.1 bt901.2.2.2 bt906.1 bt906.2.1 bt906.2.2.1 bt906.2.2.2.1)) else (laws_FnEdits.j0 k l1 bt906.2.2.2.2 true bt901.1 bt901.2.1 bt901.2.2.1 bt901.2.2.2 bt906.1 bt906.2.1 bt906.2.2.1 bt906.2.2.2.1)) else (laws_FnEdits.j0 k l1 bt906.2.2.2.2 true bt901.1 bt901.2.1 bt901.2.2.1 bt901.2.2.2 bt906.1 bt906.2.1 bt906.2.2.1 bt906.2.2.2.1)) else (laws_FnEdits.j0 k l1 bt906.2.2.2.2 true bt901.1 bt901.2.1 bt901.2.2.1 bt901.2.2.2 bt906.1 bt906.2.1 bt906.2.2.1 bt906.2.2.2.1))))))))

theorem laws_FnEdits.mono_l : ∀ k, (∀ y0 y1 y2 y3 y4 y5 y6 y7 y8 y9 y10, LeO (laws_FnEdits.j0 k y0 y1 y2 y3 y4 y5 y6 y7 y8 y9 y10) (laws_FnEdits.j0 (k + 1) y0 y1 y2 y3 y4 y5 y6 y7 y8 y9 y10)) ∧ (∀ y0, LeO (laws_FnEdits.j1 k y0) (laws_FnEdits.j1 (k + 1) y0)) ∧ (∀ y0 y1 y2 y3 y4 y5 y6 y7 y8 y9 y10 y11, LeO (laws_FnEdits.j2 k y0 y1 y2 y3 y4 y5 y6 y7 y8 y9 y10 y11) (laws_FnEdits.j2 (k + 1) y0 y1 y2 y3 y4 y5 y6 y7 y8 y9 y10 y11)) ∧ (∀ y0, LeO (laws_FnEdits.j3 k y0) (laws_FnEdits.j3 (k + 1) y0)) ∧ (∀ y0 y1 y2 y3 y4 y5 y6 y7 y8 y9 y10, LeO (laws_FnEdits.j4 k y0 y1 y2 y3 y4 y5 y6 y7 y8 y9 y10) (laws_FnEdits.j4 (k + 1) y0 y1 y2 y3 y4 y5 y6 y7 y8 y9 y10)) ∧ (∀ y0, LeO (laws_FnEdits.j5 k y0) (laws_FnEdits.j5 (k + 1) y0)) ∧ (∀ y0 y1 y2 y3 y4 y5 y6 y7 y8 y9 y10 y11 y12, LeO (laws_FnEdits.j6 k y0 y1 y2 y3 y4 y5 y6 y7 y8 y9 y10 y11 y12) (laws_FnEdits.j6 (k + 1) y0 y1 y2 y3 y4 y5 y6 y7 y8 y9 y10 y11 y12)) ∧ (∀ y0, LeO (laws_FnEdits.j7 k y0) (laws_FnEdits.j7 (k + 1) y0))
  | 0 => ⟨fun _ _ _ _ _ _ _ _ _ _ _ r h => by simp [laws_FnEdits.j0] at h, fun _ r h => by simp [laws_FnEdits.j1] at h, fun _ _ _ _ _ _ _ _ _ _ _ _ r h => by simp [laws_FnEdits.j2] at h, fun _ r h => by simp [laws_FnEdits.j3] at h, fun _ _ _ _ _ _ _ _ _ _ _ r h => by simp [laws_FnEdits.j4] at h, fun _ r h => by simp [laws_FnEdits.j5] at h, fun _ _ _ _ _ _ _ _ _ _ _ _ _ r h => by simp [laws_FnEdits.j6] at h, fun _ r h => by simp [laws_FnEdits.j7] at h⟩
  | k + 1 => by
    obtain ⟨ih0, ih1, ih2, ih3, ih4, ih5, ih6, ih7⟩ := laws_FnEdits.mono_l k
    refine ⟨?_, ?_, ?_, ?_, ?_, ?_, ?_, ?_⟩
    · intro y0 y1 y2 y3 y4 y5 y6 y7 y8 y9 y10
      unfold laws_FnEdits.j0
      repeat' first
      | (with_reducible exact ih0 _ _ _ _ _ _ _ _ _ _ _)
      | (with_reducible exact ih1 _)
      | (with_reducible exact ih2 _ _ _ _ _ _ _ _ _ _ _ _)
      | (with_reducible exact ih3 _)
      | (with_reducible exact ih4 _ _ _ _ _ _ _ _ _ _ _)
      | (with_reducible exact ih5 _)
      | (with_reducible exact ih6 _ _ _ _ _ _ _ _ _ _ _ _ _)
      | (with_reducible exact ih7 _)
      | (with_reducible exact impl_DeleteItem.mono _ _ _ _ _)
      | (with_reducible exact impl_EditText.mono _ _ _ _ _)
      | (with_reducible exact impl_ForgetEdits.mono _ _ _ _ _)
      | (with_reducible exact impl_InverseEdit.mono _ _ _ _ _)
      | (with_reducible exact impl_IsDesk.mono _ _ _ _)
      | (with_reducible exact impl_ItemsAfter.mono _ _ _ _ _)
      | (with_reducible exact impl_ItemsNow.mono _ _ _ _)
      | (with_reducible exact impl_ReplaceItem.mono _ _ _ _ _ _)
      | (with_reducible exact impl_StartDesk.mono _ _)
      | (with_reducible exact laws_pSameDesk.mono _ _ _ _ _ _ _)
      | (with_reducible exact laws_pSameTexts.mono _ _ _)
      | (with_reducible exact spec_DeleteItem.mono _ _ _ _ _)
      | (with_reducible exact spec_DrawDeleteItem.mono _ _)
      | (with_reducible exact spec_DrawForgetEdits.mono _ _)
      | (with_reducible exact spec_DrawInverseEdit.mono _ _)
      | (with_reducible exact spec_DrawItemsAfter.mono _ _)
      | (with_reducible exact spec_DrawReplaceItem.mono _ _)
      | (with_reducible exact spec_DrawStartDesk.mono _ _)
      | (with_reducible exact spec_EditText.mono _ _ _ _ _)
      | (with_reducible exact spec_ForgetEdits.mono _ _ _ _ _)
      | (with_reducible exact spec_InverseEdit.mono _ _ _ _ _)
      | (with_reducible exact spec_ItemsAfter.mono _ _ _ _ _)
      | (with_reducible exact spec_ItemsNow.mono _ _ _ _)
      | (with_reducible exact spec_ReplaceItem.mono _ _ _ _ _ _)
      | (with_reducible exact spec_StartDesk.mono _ _)
      | (with_reducible exact LeO.refl _)
      | (with_reducible exact LeO.none _)
      | (with_reducible refine LeO.ite ?_ ?_)
      | (with_reducible refine LeO.bind ?_ (fun _ => ?_))
      | exact ih0 _ _ _ _ _ _ _ _ _ _ _
      | exact ih1 _
      | exact ih2 _ _ _ _ _ _ _ _ _ _ _ _
      | exact ih3 _
      | exact ih4 _ _ _ _ _ _ _ _ _ _ _
      | exact ih5 _
      | exact ih6 _ _ _ _ _ _ _ _ _ _ _ _ _
      | exact ih7 _
      | exact impl_DeleteItem.mono _ _ _ _ _
      | exact impl_EditText.mono _ _ _ _ _
      | exact impl_ForgetEdits.mono _ _ _ _ _
      | exact impl_InverseEdit.mono _ _ _ _ _
      | exact impl_IsDesk.mono _ _ _ _
      | exact impl_ItemsAfter.mono _ _ _ _ _
      | exact impl_ItemsNow.mono _ _ _ _
      | exact impl_ReplaceItem.mono _ _ _ _ _ _
      | exact impl_StartDesk.mono _ _
      | exact laws_pSameDesk.mono _ _ _ _ _ _ _
      | exact laws_pSameTexts.mono _ _ _
      | exact spec_DeleteItem.mono _ _ _ _ _
      | exact spec_DrawDeleteItem.mono _ _
      | exact spec_DrawForgetEdits.mono _ _
      | exact spec_DrawInverseEdit.mono _ _
      | exact spec_DrawItemsAfter.mono _ _
      | exact spec_DrawReplaceItem.mono _ _
      | exact spec_DrawStartDesk.mono _ _
      | exact spec_EditText.mono _ _ _ _ _
      | exact spec_ForgetEdits.mono _ _ _ _ _
      | exact spec_InverseEdit.mono _ _ _ _ _
      | exact spec_ItemsAfter.mono _ _ _ _ _
      | exact spec_ItemsNow.mono _ _ _ _
      | exact spec_ReplaceItem.mono _ _ _ _ _ _
      | exact spec_StartDesk.mono _ _
      | exact LeO.none _
      | refine LeO.ite ?_ ?_
      | refine LeO.bind ?_ (fun _ => ?_)
    · intro y0
      unfold laws_FnEdits.j1
      repeat' first
      | (with_reducible exact ih0 _ _ _ _ _ _ _ _ _ _ _)
      | (with_reducible exact ih1 _)
      | (with_reducible exact ih2 _ _ _ _ _ _ _ _ _ _ _ _)
      | (with_reducible exact ih3 _)
      | (with_reducible exact ih4 _ _ _ _ _ _ _ _ _ _ _)
      | (with_reducible exact ih5 _)
      | (with_reducible exact ih6 _ _ _ _ _ _ _ _ _ _ _ _ _)
      | (with_reducible exact ih7 _)
      | (with_reducible exact impl_DeleteItem.mono _ _ _ _ _)
      | (with_reducible exact impl_EditText.mono _ _ _ _ _)
      | (with_reducible exact impl_ForgetEdits.mono _ _ _ _ _)
      | (with_reducible exact impl_InverseEdit.mono _ _ _ _ _)
      | (with_reducible exact impl_IsDesk.mono _ _ _ _)
      | (with_reducible exact impl_ItemsAfter.mono _ _ _ _ _)
      | (with_reducible exact impl_ItemsNow.mono _ _ _ _)
      | (with_reducible exact impl_ReplaceItem.mono _ _ _ _ _ _)
      | (with_reducible exact impl_StartDesk.mono _ _)
      | (with_reducible exact laws_pSameDesk.mono _ _ _ _ _ _ _)
      | (with_reducible exact laws_pSameTexts.mono _ _ _)
      | (with_reducible exact spec_DeleteItem.mono _ _ _ _ _)
      | (with_reducible exact spec_DrawDeleteItem.mono _ _)
      | (with_reducible exact spec_DrawForgetEdits.mono _ _)
      | (with_reducible exact spec_DrawInverseEdit.mono _ _)
      | (with_reducible exact spec_DrawItemsAfter.mono _ _)
      | (with_reducible exact spec_DrawReplaceItem.mono _ _)
      | (with_reducible exact spec_DrawStartDesk.mono _ _)
      | (with_reducible exact spec_EditText.mono _ _ _ _ _)
      | (with_reducible exact spec_ForgetEdits.mono _ _ _ _ _)
      | (with_reducible exact spec_InverseEdit.mono _ _ _ _ _)
      | (with_reducible exact spec_ItemsAfter.mono _ _ _ _ _)
      | (with_reducible exact spec_ItemsNow.mono _ _ _ _)
      | (with_reducible exact spec_ReplaceItem.mono _ _ _ _ _ _)
      | (with_reducible exact spec_StartDesk.mono _ _)
      | (with_reducible exact LeO.refl _)
      | (with_reducible exact LeO.none _)
      | (with_reducible refine LeO.ite ?_ ?_)
      | (with_reducible refine LeO.bind ?_ (fun _ => ?_))
      | exact ih0 _ _ _ _ _ _ _ _ _ _ _
      | exact ih1 _
      | exact ih2 _ _ _ _ _ _ _ _ _ _ _ _
      | exact ih3 _
      | exact ih4 _ _ _ _ _ _ _ _ _ _ _
      | exact ih5 _
      | exact ih6 _ _ _ _ _ _ _ _ _ _ _ _ _
      | exact ih7 _
      | exact impl_DeleteItem.mono _ _ _ _ _
      | exact impl_EditText.mono _ _ _ _ _
      | exact impl_ForgetEdits.mono _ _ _ _ _
      | exact impl_InverseEdit.mono _ _ _ _ _
      | exact impl_IsDesk.mono _ _ _ _
      | exact impl_ItemsAfter.mono _ _ _ _ _
      | exact impl_ItemsNow.mono _ _ _ _
      | exact impl_ReplaceItem.mono _ _ _ _ _ _
      | exact impl_StartDesk.mono _ _
      | exact laws_pSameDesk.mono _ _ _ _ _ _ _
      | exact laws_pSameTexts.mono _ _ _
      | exact spec_DeleteItem.mono _ _ _ _ _
      | exact spec_DrawDeleteItem.mono _ _
      | exact spec_DrawForgetEdits.mono _ _
      | exact spec_DrawInverseEdit.mono _ _
      | exact spec_DrawItemsAfter.mono _ _
      | exact spec_DrawReplaceItem.mono _ _
      | exact spec_DrawStartDesk.mono _ _
      | exact spec_EditText.mono _ _ _ _ _
      | exact spec_ForgetEdits.mono _ _ _ _ _
      | exact spec_InverseEdit.mono _ _ _ _ _
      | exact spec_ItemsAfter.mono _ _ _ _ _
      | exact spec_ItemsNow.mono _ _ _ _
      | exact spec_ReplaceItem.mono _ _ _ _ _ _
      | exact spec_StartDesk.mono _ _
      | exact LeO.none _
      | refine LeO.ite ?_ ?_
      | refine LeO.bind ?_ (fun _ => ?_)
    · intro y0 y1 y2 y3 y4 y5 y6 y7 y8 y9 y10 y11
      unfold laws_FnEdits.j2
      repeat' first
      | (with_reducible exact ih0 _ _ _ _ _ _ _ _ _ _ _)
      | (with_reducible exact ih1 _)
      | (with_reducible exact ih2 _ _ _ _ _ _ _ _ _ _ _ _)
      | (with_reducible exact ih3 _)
      | (with_reducible exact ih4 _ _ _ _ _ _ _ _ _ _ _)
      | (with_reducible exact ih5 _)
      | (with_reducible exact ih6 _ _ _ _ _ _ _ _ _ _ _ _ _)
      | (with_reducible exact ih7 _)
      | (with_reducible exact impl_DeleteItem.mono _ _ _ _ _)
      | (with_reducible exact impl_EditText.mono _ _ _ _ _)
      | (with_reducible exact impl_ForgetEdits.mono _ _ _ _ _)
      | (with_reducible exact impl_InverseEdit.mono _ _ _ _ _)
      | (with_reducible exact impl_IsDesk.mono _ _ _ _)
      | (with_reducible exact impl_ItemsAfter.mono _ _ _ _ _)
      | (with_reducible exact impl_ItemsNow.mono _ _ _ _)
      | (with_reducible exact impl_ReplaceItem.mono _ _ _ _ _ _)
      | (with_reducible exact impl_StartDesk.mono _ _)
      | (with_reducible exact laws_pSameDesk.mono _ _ _ _ _ _ _)
      | (with_reducible exact laws_pSameTexts.mono _ _ _)
      | (with_reducible exact spec_DeleteItem.mono _ _ _ _ _)
      | (with_reducible exact spec_DrawDeleteItem.mono _ _)
      | (with_reducible exact spec_DrawForgetEdits.mono _ _)
      | (with_reducible exact spec_DrawInverseEdit.mono _ _)
      | (with_reducible exact spec_DrawItemsAfter.mono _ _)
      | (with_reducible exact spec_DrawReplaceItem.mono _ _)
      | (with_reducible exact spec_DrawStartDesk.mono _ _)
      | (with_reducible exact spec_EditText.mono _ _ _ _ _)
      | (with_reducible exact spec_ForgetEdits.mono _ _ _ _ _)
      | (with_reducible exact spec_InverseEdit.mono _ _ _ _ _)
      | (with_reducible exact spec_ItemsAfter.mono _ _ _ _ _)
      | (with_reducible exact spec_ItemsNow.mono _ _ _ _)
      | (with_reducible exact spec_ReplaceItem.mono _ _ _ _ _ _)
      | (with_reducible exact spec_StartDesk.mono _ _)
      | (with_reducible exact LeO.refl _)
      | (with_reducible exact LeO.none _)
      | (with_reducible refine LeO.ite ?_ ?_)
      | (with_reducible refine LeO.bind ?_ (fun _ => ?_))
      | exact ih0 _ _ _ _ _ _ _ _ _ _ _
      | exact ih1 _
      | exact ih2 _ _ _ _ _ _ _ _ _ _ _ _
      | exact ih3 _
      | exact ih4 _ _ _ _ _ _ _ _ _ _ _
      | exact ih5 _
      | exact ih6 _ _ _ _ _ _ _ _ _ _ _ _ _
      | exact ih7 _
      | exact impl_DeleteItem.mono _ _ _ _ _
      | exact impl_EditText.mono _ _ _ _ _
      | exact impl_ForgetEdits.mono _ _ _ _ _
      | exact impl_InverseEdit.mono _ _ _ _ _
      | exact impl_IsDesk.mono _ _ _ _
      | exact impl_ItemsAfter.mono _ _ _ _ _
      | exact impl_ItemsNow.mono _ _ _ _
      | exact impl_ReplaceItem.mono _ _ _ _ _ _
      | exact impl_StartDesk.mono _ _
      | exact laws_pSameDesk.mono _ _ _ _ _ _ _
      | exact laws_pSameTexts.mono _ _ _
      | exact spec_DeleteItem.mono _ _ _ _ _
      | exact spec_DrawDeleteItem.mono _ _
      | exact spec_DrawForgetEdits.mono _ _
      | exact spec_DrawInverseEdit.mono _ _
      | exact spec_DrawItemsAfter.mono _ _
      | exact spec_DrawReplaceItem.mono _ _
      | exact spec_DrawStartDesk.mono _ _
      | exact spec_EditText.mono _ _ _ _ _
      | exact spec_ForgetEdits.mono _ _ _ _ _
      | exact spec_InverseEdit.mono _ _ _ _ _
      | exact spec_ItemsAfter.mono _ _ _ _ _
      | exact spec_ItemsNow.mono _ _ _ _
      | exact spec_ReplaceItem.mono _ _ _ _ _ _
      | exact spec_StartDesk.mono _ _
      | exact LeO.none _
      | refine LeO.ite ?_ ?_
      | refine LeO.bind ?_ (fun _ => ?_)
    · intro y0
      unfold laws_FnEdits.j3
      repeat' first
      | (with_reducible exact ih0 _ _ _ _ _ _ _ _ _ _ _)
      | (with_reducible exact ih1 _)
      | (with_reducible exact ih2 _ _ _ _ _ _ _ _ _ _ _ _)
      | (with_reducible exact ih3 _)
      | (with_reducible exact ih4 _ _ _ _ _ _ _ _ _ _ _)
      | (with_reducible exact ih5 _)
      | (with_reducible exact ih6 _ _ _ _ _ _ _ _ _ _ _ _ _)
      | (with_reducible exact ih7 _)
      | (with_reducible exact impl_DeleteItem.mono _ _ _ _ _)
      | (with_reducible exact impl_EditText.mono _ _ _ _ _)
      | (with_reducible exact impl_ForgetEdits.mono _ _ _ _ _)
      | (with_reducible exact impl_InverseEdit.mono _ _ _ _ _)
      | (with_reducible exact impl_IsDesk.mono _ _ _ _)
      | (with_reducible exact impl_ItemsAfter.mono _ _ _ _ _)
      | (with_reducible exact impl_ItemsNow.mono _ _ _ _)
      | (with_reducible exact impl_ReplaceItem.mono _ _ _ _ _ _)
      | (with_reducible exact impl_StartDesk.mono _ _)
      | (with_reducible exact laws_pSameDesk.mono _ _ _ _ _ _ _)
      | (with_reducible exact laws_pSameTexts.mono _ _ _)
      | (with_reducible exact spec_DeleteItem.mono _ _ _ _ _)
      | (with_reducible exact spec_DrawDeleteItem.mono _ _)
      | (with_reducible exact spec_DrawForgetEdits.mono _ _)
      | (with_reducible exact spec_DrawInverseEdit.mono _ _)
      | (with_reducible exact spec_DrawItemsAfter.mono _ _)
      | (with_reducible exact spec_DrawReplaceItem.mono _ _)
      | (with_reducible exact spec_DrawStartDesk.mono _ _)
      | (with_reducible exact spec_EditText.mono _ _ _ _ _)
      | (with_reducible exact spec_ForgetEdits.mono _ _ _ _ _)
      | (with_reducible exact spec_InverseEdit.mono _ _ _ _ _)
      | (with_reducible exact spec_ItemsAfter.mono _ _ _ _ _)
      | (with_reducible exact spec_ItemsNow.mono _ _ _ _)
      | (with_reducible exact spec_ReplaceItem.mono _ _ _ _ _ _)
      | (with_reducible exact spec_StartDesk.mono _ _)
      | (with_reducible exact LeO.refl _)
      | (with_reducible exact LeO.none _)
      | (with_reducible refine LeO.ite ?_ ?_)
      | (with_reducible refine LeO.bind ?_ (fun _ => ?_))
      | exact ih0 _ _ _ _ _ _ _ _ _ _ _
      | exact ih1 _
      | exact ih2 _ _ _ _ _ _ _ _ _ _ _ _
      | exact ih3 _
      | exact ih4 _ _ _ _ _ _ _ _ _ _ _
      | exact ih5 _
      | exact ih6 _ _ _ _ _ _ _ _ _ _ _ _ _
      | exact ih7 _
      | exact impl_DeleteItem.mono _ _ _ _ _
      | exact impl_EditText.mono _ _ _ _ _
      | exact impl_ForgetEdits.mono _ _ _ _ _
      | exact impl_InverseEdit.mono _ _ _ _ _
      | exact impl_IsDesk.mono _ _ _ _
      | exact impl_ItemsAfter.mono _ _ _ _ _
      | exact impl_ItemsNow.mono _ _ _ _
      | exact impl_ReplaceItem.mono _ _ _ _ _ _
      | exact impl_StartDesk.mono _ _
      | exact laws_pSameDesk.mono _ _ _ _ _ _ _
      | exact laws_pSameTexts.mono _ _ _
      | exact spec_DeleteItem.mono _ _ _ _ _
      | exact spec_DrawDeleteItem.mono _ _
      | exact spec_DrawForgetEdits.mono _ _
      | exact spec_DrawInverseEdit.mono _ _
      | exact spec_DrawItemsAfter.mono _ _
      | exact spec_DrawReplaceItem.mono _ _
      | exact spec_DrawStartDesk.mono _ _
      | exact spec_EditText.mono _ _ _ _ _
      | exact spec_ForgetEdits.mono _ _ _ _ _
      | exact spec_InverseEdit.mono _ _ _ _ _
      | exact spec_ItemsAfter.mono _ _ _ _ _
      | exact spec_ItemsNow.mono _ _ _ _
      | exact spec_ReplaceItem.mono _ _ _ _ _ _
      | exact spec_StartDesk.mono _ _
      | exact LeO.none _
      | refine LeO.ite ?_ ?_
      | refine LeO.bind ?_ (fun _ => ?_)
    · intro y0 y1 y2 y3 y4 y5 y6 y7 y8 y9 y10
      unfold laws_FnEdits.j4
      repeat' first
      | (with_reducible exact ih0 _ _ _ _ _ _ _ _ _ _ _)
      | (with_reducible exact ih1 _)
      | (with_reducible exact ih2 _ _ _ _ _ _ _ _ _ _ _ _)
      | (with_reducible exact ih3 _)
      | (with_reducible exact ih4 _ _ _ _ _ _ _ _ _ _ _)
      | (with_reducible exact ih5 _)
      | (with_reducible exact ih6 _ _ _ _ _ _ _ _ _ _ _ _ _)
      | (with_reducible exact ih7 _)
      | (with_reducible exact impl_DeleteItem.mono _ _ _ _ _)
      | (with_reducible exact impl_EditText.mono _ _ _ _ _)
      | (with_reducible exact impl_ForgetEdits.mono _ _ _ _ _)
      | (with_reducible exact impl_InverseEdit.mono _ _ _ _ _)
      | (with_reducible exact impl_IsDesk.mono _ _ _ _)
      | (with_reducible exact impl_ItemsAfter.mono _ _ _ _ _)
      | (with_reducible exact impl_ItemsNow.mono _ _ _ _)
      | (with_reducible exact impl_ReplaceItem.mono _ _ _ _ _ _)
      | (with_reducible exact impl_StartDesk.mono _ _)
      | (with_reducible exact laws_pSameDesk.mono _ _ _ _ _ _ _)
      | (with_reducible exact laws_pSameTexts.mono _ _ _)
      | (with_reducible exact spec_DeleteItem.mono _ _ _ _ _)
      | (with_reducible exact spec_DrawDeleteItem.mono _ _)
      | (with_reducible exact spec_DrawForgetEdits.mono _ _)
      | (with_reducible exact spec_DrawInverseEdit.mono _ _)
      | (with_reducible exact spec_DrawItemsAfter.mono _ _)
      | (with_reducible exact spec_DrawReplaceItem.mono _ _)
      | (with_reducible exact spec_DrawStartDesk.mono _ _)
      | (with_reducible exact spec_EditText.mono _ _ _ _ _)
      | (with_reducible exact spec_ForgetEdits.mono _ _ _ _ _)
      | (with_reducible exact spec_InverseEdit.mono _ _ _ _ _)
      | (with_reducible exact spec_ItemsAfter.mono _ _ _ _ _)
      | (with_reducible exact spec_ItemsNow.mono _ _ _ _)
      | (with_reducible exact spec_ReplaceItem.mono _ _ _ _ _ _)
      | (with_reducible exact spec_StartDesk.mono _ _)
      | (with_reducible exact LeO.refl _)
      | (with_reducible exact LeO.none _)
      | (with_reducible refine LeO.ite ?_ ?_)
      | (with_reducible refine LeO.bind ?_ (fun _ => ?_))
      | exact ih0 _ _ _ _ _ _ _ _ _ _ _
      | exact ih1 _
      | exact ih2 _ _ _ _ _ _ _ _ _ _ _ _
      | exact ih3 _
      | exact ih4 _ _ _ _ _ _ _ _ _ _ _
      | exact ih5 _
      | exact ih6 _ _ _ _ _ _ _ _ _ _ _ _ _
      | exact ih7 _
      | exact impl_DeleteItem.mono _ _ _ _ _
      | exact impl_EditText.mono _ _ _ _ _
      | exact impl_ForgetEdits.mono _ _ _ _ _
      | exact impl_InverseEdit.mono _ _ _ _ _
      | exact impl_IsDesk.mono _ _ _ _
      | exact impl_ItemsAfter.mono _ _ _ _ _
      | exact impl_ItemsNow.mono _ _ _ _
      | exact impl_ReplaceItem.mono _ _ _ _ _ _
      | exact impl_StartDesk.mono _ _
      | exact laws_pSameDesk.mono _ _ _ _ _ _ _
      | exact laws_pSameTexts.mono _ _ _
      | exact spec_DeleteItem.mono _ _ _ _ _
      | exact spec_DrawDeleteItem.mono _ _
      | exact spec_DrawForgetEdits.mono _ _
      | exact spec_DrawInverseEdit.mono _ _
      | exact spec_DrawItemsAfter.mono _ _
      | exact spec_DrawReplaceItem.mono _ _
      | exact spec_DrawStartDesk.mono _ _
      | exact spec_EditText.mono _ _ _ _ _
      | exact spec_ForgetEdits.mono _ _ _ _ _
      | exact spec_InverseEdit.mono _ _ _ _ _
      | exact spec_ItemsAfter.mono _ _ _ _ _
      | exact spec_ItemsNow.mono _ _ _ _
      | exact spec_ReplaceItem.mono _ _ _ _ _ _
      | exact spec_StartDesk.mono _ _
      | exact LeO.none _
      | refine LeO.ite ?_ ?_
      | refine LeO.bind ?_ (fun _ => ?_)
    · intro y0
      unfold laws_FnEdits.j5
      repeat' first
      | (with_reducible exact ih0 _ _ _ _ _ _ _ _ _ _ _)
      | (with_reducible exact ih1 _)
      | (with_reducible exact ih2 _ _ _ _ _ _ _ _ _ _ _ _)
      | (with_reducible exact ih3 _)
      | (with_reducible exact ih4 _ _ _ _ _ _ _ _ _ _ _)
      | (with_reducible exact ih5 _)
      | (with_reducible exact ih6 _ _ _ _ _ _ _ _ _ _ _ _ _)
      | (with_reducible exact ih7 _)
      | (with_reducible exact impl_DeleteItem.mono _ _ _ _ _)
      | (with_reducible exact impl_EditText.mono _ _ _ _ _)
      | (with_reducible exact impl_ForgetEdits.mono _ _ _ _ _)
      | (with_reducible exact impl_InverseEdit.mono _ _ _ _ _)
      | (with_reducible exact impl_IsDesk.mono _ _ _ _)
      | (with_reducible exact impl_ItemsAfter.mono _ _ _ _ _)
      | (with_reducible exact impl_ItemsNow.mono _ _ _ _)
      | (with_reducible exact impl_ReplaceItem.mono _ _ _ _ _ _)
      | (with_reducible exact impl_StartDesk.mono _ _)
      | (with_reducible exact laws_pSameDesk.mono _ _ _ _ _ _ _)
      | (with_reducible exact laws_pSameTexts.mono _ _ _)
      | (with_reducible exact spec_DeleteItem.mono _ _ _ _ _)
      | (with_reducible exact spec_DrawDeleteItem.mono _ _)
      | (with_reducible exact spec_DrawForgetEdits.mono _ _)
      | (with_reducible exact spec_DrawInverseEdit.mono _ _)
      | (with_reducible exact spec_DrawItemsAfter.mono _ _)
      | (with_reducible exact spec_DrawReplaceItem.mono _ _)
      | (with_reducible exact spec_DrawStartDesk.mono _ _)
      | (with_reducible exact spec_EditText.mono _ _ _ _ _)
      | (with_reducible exact spec_ForgetEdits.mono _ _ _ _ _)
      | (with_reducible exact spec_InverseEdit.mono _ _ _ _ _)
      | (with_reducible exact spec_ItemsAfter.mono _ _ _ _ _)
      | (with_reducible exact spec_ItemsNow.mono _ _ _ _)
      | (with_reducible exact spec_ReplaceItem.mono _ _ _ _ _ _)
      | (with_reducible exact spec_StartDesk.mono _ _)
      | (with_reducible exact LeO.refl _)
      | (with_reducible exact LeO.none _)
      | (with_reducible refine LeO.ite ?_ ?_)
      | (with_reducible refine LeO.bind ?_ (fun _ => ?_))
      | exact ih0 _ _ _ _ _ _ _ _ _ _ _
      | exact ih1 _
      | exact ih2 _ _ _ _ _ _ _ _ _ _ _ _
      | exact ih3 _
      | exact ih4 _ _ _ _ _ _ _ _ _ _ _
      | exact ih5 _
      | exact ih6 _ _ _ _ _ _ _ _ _ _ _ _ _
      | exact ih7 _
      | exact impl_DeleteItem.mono _ _ _ _ _
      | exact impl_EditText.mono _ _ _ _ _
      | exact impl_ForgetEdits.mono _ _ _ _ _
      | exact impl_InverseEdit.mono _ _ _ _ _
      | exact impl_IsDesk.mono _ _ _ _
      | exact impl_ItemsAfter.mono _ _ _ _ _
      | exact impl_ItemsNow.mono _ _ _ _
      | exact impl_ReplaceItem.mono _ _ _ _ _ _
      | exact impl_StartDesk.mono _ _
      | exact laws_pSameDesk.mono _ _ _ _ _ _ _
      | exact laws_pSameTexts.mono _ _ _
      | exact spec_DeleteItem.mono _ _ _ _ _
      | exact spec_DrawDeleteItem.mono _ _
      | exact spec_DrawForgetEdits.mono _ _
      | exact spec_DrawInverseEdit.mono _ _
      | exact spec_DrawItemsAfter.mono _ _
      | exact spec_DrawReplaceItem.mono _ _
      | exact spec_DrawStartDesk.mono _ _
      | exact spec_EditText.mono _ _ _ _ _
      | exact spec_ForgetEdits.mono _ _ _ _ _
      | exact spec_InverseEdit.mono _ _ _ _ _
      | exact spec_ItemsAfter.mono _ _ _ _ _
      | exact spec_ItemsNow.mono _ _ _ _
      | exact spec_ReplaceItem.mono _ _ _ _ _ _
      | exact spec_StartDesk.mono _ _
      | exact LeO.none _
      | refine LeO.ite ?_ ?_
      | refine LeO.bind ?_ (fun _ => ?_)
    · intro y0 y1 y2 y3 y4 y5 y6 y7 y8 y9 y10 y11 y12
      unfold laws_FnEdits.j6
      repeat' first
      | (with_reducible exact ih0 _ _ _ _ _ _ _ _ _ _ _)
      | (with_reducible exact ih1 _)
      | (with_reducible exact ih2 _ _ _ _ _ _ _ _ _ _ _ _)
      | (with_reducible exact ih3 _)
      | (with_reducible exact ih4 _ _ _ _ _ _ _ _ _ _ _)
      | (with_reducible exact ih5 _)
      | (with_reducible exact ih6 _ _ _ _ _ _ _ _ _ _ _ _ _)
      | (with_reducible exact ih7 _)
      | (with_reducible exact impl_DeleteItem.mono _ _ _ _ _)
      | (with_reducible exact impl_EditText.mono _ _ _ _ _)
      | (with_reducible exact impl_ForgetEdits.mono _ _ _ _ _)
      | (with_reducible exact impl_InverseEdit.mono _ _ _ _ _)
      | (with_reducible exact impl_IsDesk.mono _ _ _ _)
      | (with_reducible exact impl_ItemsAfter.mono _ _ _ _ _)
      | (with_reducible exact impl_ItemsNow.mono _ _ _ _)
      | (with_reducible exact impl_ReplaceItem.mono _ _ _ _ _ _)
      | (with_reducible exact impl_StartDesk.mono _ _)
      | (with_reducible exact laws_pSameDesk.mono _ _ _ _ _ _ _)
      | (with_reducible exact laws_pSameTexts.mono _ _ _)
      | (with_reducible exact spec_DeleteItem.mono _ _ _ _ _)
      | (with_reducible exact spec_DrawDeleteItem.mono _ _)
      | (with_reducible exact spec_DrawForgetEdits.mono _ _)
      | (with_reducible exact spec_DrawInverseEdit.mono _ _)
      | (with_reducible exact spec_DrawItemsAfter.mono _ _)
      | (with_reducible exact spec_DrawReplaceItem.mono _ _)
      | (with_reducible exact spec_DrawStartDesk.mono _ _)
      | (with_reducible exact spec_EditText.mono _ _ _ _ _)
      | (with_reducible exact spec_ForgetEdits.mono _ _ _ _ _)
      | (with_reducible exact spec_InverseEdit.mono _ _ _ _ _)
      | (with_reducible exact spec_ItemsAfter.mono _ _ _ _ _)
      | (with_reducible exact spec_ItemsNow.mono _ _ _ _)
      | (with_reducible exact spec_ReplaceItem.mono _ _ _ _ _ _)
      | (with_reducible exact spec_StartDesk.mono _ _)
      | (with_reducible exact LeO.refl _)
      | (with_reducible exact LeO.none _)
      | (with_reducible refine LeO.ite ?_ ?_)
      | (with_reducible refine LeO.bind ?_ (fun _ => ?_))
      | exact ih0 _ _ _ _ _ _ _ _ _ _ _
      | exact ih1 _
      | exact ih2 _ _ _ _ _ _ _ _ _ _ _ _
      | exact ih3 _
      | exact ih4 _ _ _ _ _ _ _ _ _ _ _
      | exact ih5 _
      | exact ih6 _ _ _ _ _ _ _ _ _ _ _ _ _
      | exact ih7 _
      | exact impl_DeleteItem.mono _ _ _ _ _
      | exact impl_EditText.mono _ _ _ _ _
      | exact impl_ForgetEdits.mono _ _ _ _ _
      | exact impl_InverseEdit.mono _ _ _ _ _
      | exact impl_IsDesk.mono _ _ _ _
      | exact impl_ItemsAfter.mono _ _ _ _ _
      | exact impl_ItemsNow.mono _ _ _ _
      | exact impl_ReplaceItem.mono _ _ _ _ _ _
      | exact impl_StartDesk.mono _ _
      | exact laws_pSameDesk.mono _ _ _ _ _ _ _
      | exact laws_pSameTexts.mono _ _ _
      | exact spec_DeleteItem.mono _ _ _ _ _
      | exact spec_DrawDeleteItem.mono _ _
      | exact spec_DrawForgetEdits.mono _ _
      | exact spec_DrawInverseEdit.mono _ _
      | exact spec_DrawItemsAfter.mono _ _
      | exact spec_DrawReplaceItem.mono _ _
      | exact spec_DrawStartDesk.mono _ _
      | exact spec_EditText.mono _ _ _ _ _
      | exact spec_ForgetEdits.mono _ _ _ _ _
      | exact spec_InverseEdit.mono _ _ _ _ _
      | exact spec_ItemsAfter.mono _ _ _ _ _
      | exact spec_ItemsNow.mono _ _ _ _
      | exact spec_ReplaceItem.mono _ _ _ _ _ _
      | exact spec_StartDesk.mono _ _
      | exact LeO.none _
      | refine LeO.ite ?_ ?_
      | refine LeO.bind ?_ (fun _ => ?_)
    · intro y0
      unfold laws_FnEdits.j7
      repeat' first
      | (with_reducible exact ih0 _ _ _ _ _ _ _ _ _ _ _)
      | (with_reducible exact ih1 _)
      | (with_reducible exact ih2 _ _ _ _ _ _ _ _ _ _ _ _)
      | (with_reducible exact ih3 _)
      | (with_reducible exact ih4 _ _ _ _ _ _ _ _ _ _ _)
      | (with_reducible exact ih5 _)
      | (with_reducible exact ih6 _ _ _ _ _ _ _ _ _ _ _ _ _)
      | (with_reducible exact ih7 _)
      | (with_reducible exact impl_DeleteItem.mono _ _ _ _ _)
      | (with_reducible exact impl_EditText.mono _ _ _ _ _)
      | (with_reducible exact impl_ForgetEdits.mono _ _ _ _ _)
      | (with_reducible exact impl_InverseEdit.mono _ _ _ _ _)
      | (with_reducible exact impl_IsDesk.mono _ _ _ _)
      | (with_reducible exact impl_ItemsAfter.mono _ _ _ _ _)
      | (with_reducible exact impl_ItemsNow.mono _ _ _ _)
      | (with_reducible exact impl_ReplaceItem.mono _ _ _ _ _ _)
      | (with_reducible exact impl_StartDesk.mono _ _)
      | (with_reducible exact laws_pSameDesk.mono _ _ _ _ _ _ _)
      | (with_reducible exact laws_pSameTexts.mono _ _ _)
      | (with_reducible exact spec_DeleteItem.mono _ _ _ _ _)
      | (with_reducible exact spec_DrawDeleteItem.mono _ _)
      | (with_reducible exact spec_DrawForgetEdits.mono _ _)
      | (with_reducible exact spec_DrawInverseEdit.mono _ _)
      | (with_reducible exact spec_DrawItemsAfter.mono _ _)
      | (with_reducible exact spec_DrawReplaceItem.mono _ _)
      | (with_reducible exact spec_DrawStartDesk.mono _ _)
      | (with_reducible exact spec_EditText.mono _ _ _ _ _)
      | (with_reducible exact spec_ForgetEdits.mono _ _ _ _ _)
      | (with_reducible exact spec_InverseEdit.mono _ _ _ _ _)
      | (with_reducible exact spec_ItemsAfter.mono _ _ _ _ _)
      | (with_reducible exact spec_ItemsNow.mono _ _ _ _)
      | (with_reducible exact spec_ReplaceItem.mono _ _ _ _ _ _)
      | (with_reducible exact spec_StartDesk.mono _ _)
      | (with_reducible exact LeO.refl _)
      | (with_reducible exact LeO.none _)
      | (with_reducible refine LeO.ite ?_ ?_)
      | (with_reducible refine LeO.bind ?_ (fun _ => ?_))
      | exact ih0 _ _ _ _ _ _ _ _ _ _ _
      | exact ih1 _
      | exact ih2 _ _ _ _ _ _ _ _ _ _ _ _
      | exact ih3 _
      | exact ih4 _ _ _ _ _ _ _ _ _ _ _
      | exact ih5 _
      | exact ih6 _ _ _ _ _ _ _ _ _ _ _ _ _
      | exact ih7 _
      | exact impl_DeleteItem.mono _ _ _ _ _
      | exact impl_EditText.mono _ _ _ _ _
      | exact impl_ForgetEdits.mono _ _ _ _ _
      | exact impl_InverseEdit.mono _ _ _ _ _
      | exact impl_IsDesk.mono _ _ _ _
      | exact impl_ItemsAfter.mono _ _ _ _ _
      | exact impl_ItemsNow.mono _ _ _ _
      | exact impl_ReplaceItem.mono _ _ _ _ _ _
      | exact impl_StartDesk.mono _ _
      | exact laws_pSameDesk.mono _ _ _ _ _ _ _
      | exact laws_pSameTexts.mono _ _ _
      | exact spec_DeleteItem.mono _ _ _ _ _
      | exact spec_DrawDeleteItem.mono _ _
      | exact spec_DrawForgetEdits.mono _ _
      | exact spec_DrawInverseEdit.mono _ _
      | exact spec_DrawItemsAfter.mono _ _
      | exact spec_DrawReplaceItem.mono _ _
      | exact spec_DrawStartDesk.mono _ _
      | exact spec_EditText.mono _ _ _ _ _
      | exact spec_ForgetEdits.mono _ _ _ _ _
      | exact spec_InverseEdit.mono _ _ _ _ _
      | exact spec_ItemsAfter.mono _ _ _ _ _
      | exact spec_ItemsNow.mono _ _ _ _
      | exact spec_ReplaceItem.mono _ _ _ _ _ _
      | exact spec_StartDesk.mono _ _
      | exact LeO.none _
      | refine LeO.ite ?_ ?_
      | refine LeO.bind ?_ (fun _ => ?_)

theorem laws_FnEdits.mono : ∀ a0 a1 k, LeO (laws_FnEdits.f k a0 a1) (laws_FnEdits.f (k + 1) a0 a1) := by
  intro a0 a1 k
  obtain ⟨ih0, ih1, ih2, ih3, ih4, ih5, ih6, ih7⟩ := laws_FnEdits.mono_l k
  unfold laws_FnEdits.f
  repeat' first
      | (with_reducible exact ih0 _ _ _ _ _ _ _ _ _ _ _)
      | (with_reducible exact ih1 _)
      | (with_reducible exact ih2 _ _ _ _ _ _ _ _ _ _ _ _)
      | (with_reducible exact ih3 _)
      | (with_reducible exact ih4 _ _ _ _ _ _ _ _ _ _ _)
      | (with_reducible exact ih5 _)
      | (with_reducible exact ih6 _ _ _ _ _ _ _ _ _ _ _ _ _)
      | (with_reducible exact ih7 _)
      | (with_reducible exact impl_DeleteItem.mono _ _ _ _ _)
      | (with_reducible exact impl_EditText.mono _ _ _ _ _)
      | (with_reducible exact impl_ForgetEdits.mono _ _ _ _ _)
      | (with_reducible exact impl_InverseEdit.mono _ _ _ _ _)
      | (with_reducible exact impl_IsDesk.mono _ _ _ _)
      | (with_reducible exact impl_ItemsAfter.mono _ _ _ _ _)
      | (with_reducible exact impl_ItemsNow.mono _ _ _ _)
      | (with_reducible exact impl_ReplaceItem.mono _ _ _ _ _ _)
      | (with_reducible exact impl_StartDesk.mono _ _)
      | (with_reducible exact laws_pSameDesk.mono _ _ _ _ _ _ _)
      | (with_reducible exact laws_pSameTexts.mono _ _ _)
      | (with_reducible exact spec_DeleteItem.mono _ _ _ _ _)
      | (with_reducible exact spec_DrawDeleteItem.mono _ _)
      | (with_reducible exact spec_DrawForgetEdits.mono _ _)
      | (with_reducible exact spec_DrawInverseEdit.mono _ _)
      | (with_reducible exact spec_DrawItemsAfter.mono _ _)
      | (with_reducible exact spec_DrawReplaceItem.mono _ _)
      | (with_reducible exact spec_DrawStartDesk.mono _ _)
      | (with_reducible exact spec_EditText.mono _ _ _ _ _)
      | (with_reducible exact spec_ForgetEdits.mono _ _ _ _ _)
      | (with_reducible exact spec_InverseEdit.mono _ _ _ _ _)
      | (with_reducible exact spec_ItemsAfter.mono _ _ _ _ _)
      | (with_reducible exact spec_ItemsNow.mono _ _ _ _)
      | (with_reducible exact spec_ReplaceItem.mono _ _ _ _ _ _)
      | (with_reducible exact spec_StartDesk.mono _ _)
      | (with_reducible exact LeO.refl _)
      | (with_reducible exact LeO.none _)
      | (with_reducible refine LeO.ite ?_ ?_)
      | (with_reducible refine LeO.bind ?_ (fun _ => ?_))
      | exact ih0 _ _ _ _ _ _ _ _ _ _ _
      | exact ih1 _
      | exact ih2 _ _ _ _ _ _ _ _ _ _ _ _
      | exact ih3 _
      | exact ih4 _ _ _ _ _ _ _ _ _ _ _
      | exact ih5 _
      | exact ih6 _ _ _ _ _ _ _ _ _ _ _ _ _
      | exact ih7 _
      | exact impl_DeleteItem.mono _ _ _ _ _
      | exact impl_EditText.mono _ _ _ _ _
      | exact impl_ForgetEdits.mono _ _ _ _ _
      | exact impl_InverseEdit.mono _ _ _ _ _
      | exact impl_IsDesk.mono _ _ _ _
      | exact impl_ItemsAfter.mono _ _ _ _ _
      | exact impl_ItemsNow.mono _ _ _ _
      | exact impl_ReplaceItem.mono _ _ _ _ _ _
      | exact impl_StartDesk.mono _ _
      | exact laws_pSameDesk.mono _ _ _ _ _ _ _
      | exact laws_pSameTexts.mono _ _ _
      | exact spec_DeleteItem.mono _ _ _ _ _
      | exact spec_DrawDeleteItem.mono _ _
      | exact spec_DrawForgetEdits.mono _ _
      | exact spec_DrawInverseEdit.mono _ _
      | exact spec_DrawItemsAfter.mono _ _
      | exact spec_DrawReplaceItem.mono _ _
      | exact spec_DrawStartDesk.mono _ _
      | exact spec_EditText.mono _ _ _ _ _
      | exact spec_ForgetEdits.mono _ _ _ _ _
      | exact spec_InverseEdit.mono _ _ _ _ _
      | exact spec_ItemsAfter.mono _ _ _ _ _
      | exact spec_ItemsNow.mono _ _ _ _
      | exact spec_ReplaceItem.mono _ _ _ _ _ _
      | exact spec_StartDesk.mono _ _
      | exact LeO.none _
      | refine LeO.ite ?_ ?_
      | refine LeO.bind ?_ (fun _ => ?_)

def laws_FnEdits.e (k : Nat) : Refl.Ent G := ⟨3, [(.c (.row 5 false)), (.c (.row 5 false))], .one (.c .bool), fun x => laws_FnEdits.f k x.1 x.2⟩
def laws_FnEdits.pj0 : Refl.Pn G (Refl.PT G (laws_FnEdits.e 0).ol) := ⟨false, 1000008, ⟨[(1, .v (.c (.row 5 false))), (7, .v (.c .bool)), (107, .v (.c .bool)), (5, .box 5 0), (6, .box 6 0), (4, .k (Value.bool false))], [(5, 25, gL2), (6, 25, gL2)]⟩, fun k x => laws_FnEdits.j0 k x.1 x.2.1 x.2.2.1 x.2.2.2.1 x.2.2.2.2.1 x.2.2.2.2.2.1 x.2.2.2.2.2.2.1 x.2.2.2.2.2.2.2.1 x.2.2.2.2.2.2.2.2.1 x.2.2.2.2.2.2.2.2.2.1 x.2.2.2.2.2.2.2.2.2.2⟩
def laws_FnEdits.pj1 : Refl.Pn G (Refl.PT G (laws_FnEdits.e 0).ol) := ⟨false, 14, ⟨[(1, .v (.c (.row 5 false))), (4, .k (Value.bool false))], []⟩, fun k x => laws_FnEdits.j1 k x⟩
def laws_FnEdits.pj2 : Refl.Pn G (Refl.PT G (laws_FnEdits.e 0).ol) := ⟨false, 1000017, ⟨[(1, .v (.c (.row 5 false))), (19, .v (.c .bool)), (146, .v (.c .bool)), (16, .box 16 0), (18, .box 18 0), (20, .box 20 0), (4, .k (Value.bool false))], [(16, 34, gL5), (18, 34, gL5), (20, 34, gL5)]⟩, fun k x => laws_FnEdits.j2 k x.1 x.2.1 x.2.2.1 x.2.2.2.1 x.2.2.2.2.1 x.2.2.2.2.2.1 x.2.2.2.2.2.2.1 x.2.2.2.2.2.2.2.1 x.2.2.2.2.2.2.2.2.1 x.2.2.2.2.2.2.2.2.2.1 x.2.2.2.2.2.2.2.2.2.2.1 x.2.2.2.2.2.2.2.2.2.2.2⟩
def laws_FnEdits.pj3 : Refl.Pn G (Refl.PT G (laws_FnEdits.e 0).ol) := ⟨false, 25, ⟨[(1, .v (.c (.row 5 false))), (4, .k (Value.bool false))], []⟩, fun k x => laws_FnEdits.j3 k x⟩
def laws_FnEdits.pj4 : Refl.Pn G (Refl.PT G (laws_FnEdits.e 0).ol) := ⟨false, 1000028, ⟨[(1, .v (.c (.row 5 false))), (29, .v (.c li)), (30, .v (.c .str)), (32, .v (.c .bool)), (220, .v (.c .bool)), (31, .box 31 0), (33, .box 33 0), (4, .k (Value.bool false))], [(31, 34, gL5), (33, 34, gL5)]⟩, fun k x => laws_FnEdits.j4 k x.1 x.2.1 x.2.2.1 x.2.2.2.1 x.2.2.2.2.1 x.2.2.2.2.2.1 x.2.2.2.2.2.2.1 x.2.2.2.2.2.2.2.1 x.2.2.2.2.2.2.2.2.1 x.2.2.2.2.2.2.2.2.2.1 x.2.2.2.2.2.2.2.2.2.2⟩
def laws_FnEdits.pj5 : Refl.Pn G (Refl.PT G (laws_FnEdits.e 0).ol) := ⟨false, 35, ⟨[(1, .v (.c (.row 5 false))), (4, .k (Value.bool false))], []⟩, fun k x => laws_FnEdits.j5 k x⟩
def laws_FnEdits.pj6 : Refl.Pn G (Refl.PT G (laws_FnEdits.e 0).ol) := ⟨false, 1000038, ⟨[(1, .v (.c (.row 5 false))), (40, .v (.c li)), (42, .v (.c .bool)), (282, .v (.c .bool)), (39, .box 39 0), (41, .box 41 0), (43, .box 43 0), (4, .k (Value.bool false))], [(39, 34, gL5), (41, 34, gL5), (43, 34, gL5)]⟩, fun k x => laws_FnEdits.j6 k x.1 x.2.1 x.2.2.1 x.2.2.2.1 x.2.2.2.2.1 x.2.2.2.2.2.1 x.2.2.2.2.2.2.1 x.2.2.2.2.2.2.2.1 x.2.2.2.2.2.2.2.2.1 x.2.2.2.2.2.2.2.2.2.1 x.2.2.2.2.2.2.2.2.2.2.1 x.2.2.2.2.2.2.2.2.2.2.2.1 x.2.2.2.2.2.2.2.2.2.2.2.2⟩
def laws_FnEdits.pj7 : Refl.Pn G (Refl.PT G (laws_FnEdits.e 0).ol) := ⟨false, 45, ⟨[(1, .v (.c (.row 5 false))), (4, .k (Value.bool false))], []⟩, fun k x => laws_FnEdits.j7 k x⟩
theorem laws_FnEdits.ok (k : Nat) : Refl.EntOK Tryz.prog (laws_FnEdits.e k) := Refl.ent_ok 1000000 k GC (fun k => [laws_big.e k, spec_DrawInverseEdit.e k, impl_InverseEdit.e k, spec_InverseEdit.e k, impl_EditText.e k, spec_EditText.e k, spec_DrawDeleteItem.e k, impl_DeleteItem.e k, spec_DeleteItem.e k, laws_pSameDesk.e k, spec_ItemsNow.e k, impl_ItemsNow.e k, laws_pSameTexts.e k, impl_IsDesk.e k, spec_DrawReplaceItem.e k, impl_ReplaceItem.e k, spec_ReplaceItem.e k, spec_DrawForgetEdits.e k, impl_ForgetEdits.e k, spec_ForgetEdits.e k, spec_DrawItemsAfter.e k, impl_ItemsAfter.e k, spec_ItemsAfter.e k, spec_DrawStartDesk.e k, impl_StartDesk.e k, spec_StartDesk.e k]) (fun k => ⟨laws_big.ok k, spec_DrawInverseEdit.ok k, impl_InverseEdit.ok k, spec_InverseEdit.ok k, impl_EditText.ok k, spec_EditText.ok k, spec_DrawDeleteItem.ok k, impl_DeleteItem.ok k, spec_DeleteItem.ok k, laws_pSameDesk.ok k, spec_ItemsNow.ok k, impl_ItemsNow.ok k, laws_pSameTexts.ok k, impl_IsDesk.ok k, spec_DrawReplaceItem.ok k, impl_ReplaceItem.ok k, spec_ReplaceItem.ok k, spec_DrawForgetEdits.ok k, impl_ForgetEdits.ok k, spec_ForgetEdits.ok k, spec_DrawItemsAfter.ok k, impl_ItemsAfter.ok k, spec_ItemsAfter.ok k, spec_DrawStartDesk.ok k, impl_StartDesk.ok k, spec_StartDesk.ok k, trivial⟩) Tryz.func3 (by kernel_rfl) [laws_FnEdits.pj0, laws_FnEdits.pj1, laws_FnEdits.pj2, laws_FnEdits.pj3, laws_FnEdits.pj4, laws_FnEdits.pj5, laws_FnEdits.pj6, laws_FnEdits.pj7] (ps := [laws_FnEdits.pj0, laws_FnEdits.pj1, laws_FnEdits.pj2, laws_FnEdits.pj3, laws_FnEdits.pj4, laws_FnEdits.pj5, laws_FnEdits.pj6, laws_FnEdits.pj7]) (by kernel_rfl) ⟨⟨fun x => by kernel_rfl, fun k x => by kernel_rfl⟩, ⟨fun x => by kernel_rfl, fun k x => by kernel_rfl⟩, ⟨fun x => by kernel_rfl, fun k x => by kernel_rfl⟩, ⟨fun x => by kernel_rfl, fun k x => by kernel_rfl⟩, ⟨fun x => by kernel_rfl, fun k x => by kernel_rfl⟩, ⟨fun x => by kernel_rfl, fun k x => by kernel_rfl⟩, ⟨fun x => by kernel_rfl, fun k x => by kernel_rfl⟩, ⟨fun x => by kernel_rfl, fun k x => by kernel_rfl⟩, trivial⟩ (fun x => by kernel_rfl)

theorem laws_FnEdits.calls (k : Nat) (A0 : Option Addr) (c0 : Nat) (l0 : List Int) (A1 : Option Addr) (c1 : Nat) (l1 : List Int) (r : Bool) (w : World) (hr0 : Kd.C (Kd.int .u8) w A0 l0.length l0) (hc0 : l0.length ≤ c0) (hr1 : Kd.C (Kd.int .u8) w A1 l1.length l1) (hc1 : l1.length ≤ c1) (h : laws_FnEdits.f k l0 l1 = some r) :
    Calls Tryz.prog 3 #[.slice A0 l0.length c0, .slice A1 l1.length c1] w fun e w' => e = .returned (.bool r) ∧ Below w.heap.size w w' :=
 Refl.EntOK.use (laws_FnEdits.ok k) (l0, l1) r h (vals := [.slice A0 l0.length c0, .slice A1 l1.length c1]) (by kernel_rfl) (by kernel_rfl) ⟨row_of ((Kd.int .u8)) (rkInt .u8) (fun _ _ _ h => h) rfl hr0 hc0, row_of ((Kd.int .u8)) (rkInt .u8) (fun _ _ _ h => h) rfl hr1 hc1, trivial⟩ (by kernel_rfl)

end Go.Proofs.YtgpkeclojbcgoaaGreatDoor.PA
