-- Written by a program of this session (wip/tools/myprint.py). Not trusted: Lean checks it.
import Derived.Test.YtgpkeclojbcgoaaCtx
import Derived.Test.YtgpkeclojbcgoaaPAx1
import Derived.Test.YtgpkeclojbcgoaaPAx2
namespace Go.Proofs.Ytgpkeclojbcgoaa.PA
open Go.RowKit Go.Proofs.YtgpkeclojbcgoaaW.PrintWords Go.Proofs.YtgpkeclojbcgoaaW.PrintLast Go.Proofs.YtgpkeclojbcgoaaW.PrintMore
attribute [local go_sem] max2_int min2_int max_two min_two max_three min_three max_four min_four   -- for this text's walks alone
set_option linter.unusedVariables false
set_option linter.unusedSimpArgs false

/-! ### spec_DrawIsDesk: function 55 -/

def spec_DrawIsDesk.f (k : Nat) (l0 : List Int) : Option (List ByteArray × (List (S38)) × (List (S38))) := (spec_l1Cur_desk.f k l0 0 0).bind fun bt623 => (some (bt623.1, bt623.2.1, bt623.2.2.1))

theorem spec_DrawIsDesk.mono : ∀ a0 k, LeO (spec_DrawIsDesk.f k a0) (spec_DrawIsDesk.f (k + 1) a0) := by
  intro a0 k
  unfold spec_DrawIsDesk.f
  repeat' first
      | (with_reducible exact spec_l1Cur_desk.mono _ _ _ _)
      | (with_reducible exact LeO.refl _)
      | (with_reducible exact LeO.none _)
      | (with_reducible refine LeO.ite ?_ ?_)
      | (with_reducible refine LeO.bind ?_ (fun _ => ?_))
      | exact spec_l1Cur_desk.mono _ _ _ _
      | exact LeO.none _
      | refine LeO.ite ?_ ?_
      | refine LeO.bind ?_ (fun _ => ?_)

def spec_DrawIsDesk.e (k : Nat) : Refl.Ent G := ⟨55, [(.c (.row 5 false))], .one (.agg gL1), fun x => spec_DrawIsDesk.f k x⟩
theorem spec_DrawIsDesk.ok (k : Nat) : Refl.EntOK Try.prog (spec_DrawIsDesk.e k) := Refl.ent_ok 1000000 k GC (fun k => [spec_l1Cur_desk.e k]) (fun k => ⟨spec_l1Cur_desk.ok k, trivial⟩) Try.func55 (by kernel_rfl) [] (ps := []) (by kernel_rfl) trivial (fun x => by kernel_rfl)

/-! ### spec_DrawUndoEdit: function 7 -/

def spec_DrawUndoEdit.f (k : Nat) (l0 : List Int) : Option (List ByteArray × (List (S38)) × (List (S38))) := (spec_DrawIsDesk.f k l0).bind fun bt636 => (some (bt636.1, bt636.2.1, bt636.2.2))

theorem spec_DrawUndoEdit.mono : ∀ a0 k, LeO (spec_DrawUndoEdit.f k a0) (spec_DrawUndoEdit.f (k + 1) a0) := by
  intro a0 k
  unfold spec_DrawUndoEdit.f
  repeat' first
      | (with_reducible exact spec_DrawIsDesk.mono _ _)
      | (with_reducible exact LeO.refl _)
      | (with_reducible exact LeO.none _)
      | (with_reducible refine LeO.ite ?_ ?_)
      | (with_reducible refine LeO.bind ?_ (fun _ => ?_))
      | exact spec_DrawIsDesk.mono _ _
      | exact LeO.none _
      | refine LeO.ite ?_ ?_
      | refine LeO.bind ?_ (fun _ => ?_)

def spec_DrawUndoEdit.e (k : Nat) : Refl.Ent G := ⟨7, [(.c (.row 5 false))], .one (.agg gL1), fun x => spec_DrawUndoEdit.f k x⟩
theorem spec_DrawUndoEdit.ok (k : Nat) : Refl.EntOK Try.prog (spec_DrawUndoEdit.e k) := Refl.ent_ok 1000000 k GC (fun k => [spec_DrawIsDesk.e k]) (fun k => ⟨spec_DrawIsDesk.ok k, trivial⟩) Try.func7 (by kernel_rfl) [] (ps := []) (by kernel_rfl) trivial (fun x => by kernel_rfl)

/-! ### impl_within: function 65 -/

-- JOINS  | BOXES 
def impl_within.f (a0 : Int) (a1 : Int) (a2 : Int) : Option (Bool) := if a0 ≥ a1 then (some (decide (a0 ≤ a2))) else (some false)
set_option maxHeartbeats 8000000 in
set_option maxRecDepth 100000 in
theorem impl_within.calls (a0 : Int) (a1 : Int) (a2 : Int) (r : Bool) (w : World) (h : impl_within.f a0 a1 a2 = some r) :
    Calls Try.prog 65 #[.int .i64 a0, .int .i64 a1, .int .i64 a2] w fun e w' => e = .returned (.bool r) ∧ Drawn0 w w' := by
  have H : (if a0 ≥ a1 then (some (decide (a0 ≤ a2))) else (some false)) = some r := h
  clear h
  by_cases c4 : a0 ≥ a1
  · rw [if_pos c4] at H
    have c4b0 : decide (a1 ≤ a0) = true := decide_eq_true c4
    clear c4
    obtain rfl := Option.some.inj H
    go_enter Try.func65, Try.ntmps65
    go_wp2
    go_ret
    exact ⟨by first | rfl | (simp; done) | (simp [*]; done), by repeat (first | exact Drawn0.refl _ | apply Drawn0.step)⟩
  · rw [if_neg c4] at H
    have c4b0 : decide (a1 ≤ a0) = false := decide_eq_false c4
    clear c4
    obtain rfl := Option.some.inj H
    go_enter Try.func65, Try.ntmps65
    go_wp2
    go_ret
    exact ⟨by first | rfl | (simp; done) | (simp [*]; done), by repeat (first | exact Drawn0.refl _ | apply Drawn0.step)⟩

def impl_within.e (k : Nat) : Refl.Ent G := ⟨65, [(.c li), (.c li), (.c li)], .one (.c .bool), fun x => impl_within.f x.1 x.2.1 x.2.2⟩
theorem impl_within.ok (k : Nat) : Refl.EntOK Try.prog (impl_within.e k) := Refl.ent_ok 1000000 k GC (fun k => []) (fun k => trivial) Try.func65 (by kernel_rfl) [] (ps := []) (by kernel_rfl) trivial (fun x => by kernel_rfl)

/-! ### strings_IndexByte: function 137 -/

def strings_IndexByte.f (a0 : ByteArray) (a1 : Int) : Option Int := some (Lib.indexByte a0.data.toList a1.toNat.toUInt8)
theorem strings_IndexByte.calls (a0 : ByteArray) (a1 : Int) (r : Int) (w : World) (h : strings_IndexByte.f a0 a1 = some r) :
    Calls Try.prog 137 #[.string a0, .int .u8 a1] w fun e w' => e = .returned (.int .i64 r) ∧ Drawn0 w w' := by
  obtain rfl := Option.some.inj h
  exact (Try.strings_IndexByte a0 a1 w).mono fun e w' ⟨he, hw⟩ => ⟨he, hw ▸ Drawn0.refl _⟩

def strings_IndexByte.e (k : Nat) : Refl.Ent G := ⟨137, [(.c .str), (.c (.int .u8))], .one (.c li), fun x => strings_IndexByte.f x.1 x.2⟩
theorem strings_IndexByte.ok (k : Nat) : Refl.EntOK Try.prog (strings_IndexByte.e k) := Refl.entOK_hand Try.func137 (by kernel_rfl) (fun x => by kernel_rfl) (fun y => ⟨by kernel_rfl, by kernel_rfl, by kernel_rfl, by kernel_rfl⟩) (fun x y h w => (strings_IndexByte.calls x.1 x.2 y w h).mono fun e w' hh => ⟨hh.1, hh.2.below⟩)

/-! ### impl_hasOnly: function 131 -/

def impl_hasOnly.l0 : Nat → ByteArray → ByteArray → Int → Int → Option (Bool)
  | 0, _, _, _, _ => none
  | k + 1, x0, x1, x7, x8 => if x8 < x7 then (if 0 ≤ x8 then (if x8 < (x0.size : Int) then ((strings_IndexByte.f x1 (bt x0 x8)).bind fun t645 => (if t645 < 0 then (some false) else (impl_hasOnly.l0 k x0 x1 x7 (wrap64 (x8 + 1))))) else (none)) else (none)) else (some true)

def impl_hasOnly.f (k : Nat) (a0 : ByteArray) (a1 : ByteArray) : Option (Bool) := impl_hasOnly.l0 k a0 a1 (a0.size : Int) 0

theorem impl_hasOnly.mono_l : ∀ k, (∀ y0 y1 y2 y3, LeO (impl_hasOnly.l0 k y0 y1 y2 y3) (impl_hasOnly.l0 (k + 1) y0 y1 y2 y3))
  | 0 => fun _ _ _ _ r h => by simp [impl_hasOnly.l0] at h
  | k + 1 => by
    have ih0 := impl_hasOnly.mono_l k
    · intro y0 y1 y2 y3
      unfold impl_hasOnly.l0
      repeat' first
      | (with_reducible exact ih0 _ _ _ _)
      | (with_reducible exact LeO.refl _)
      | (with_reducible exact LeO.none _)
      | (with_reducible refine LeO.ite ?_ ?_)
      | (with_reducible refine LeO.bind ?_ (fun _ => ?_))
      | exact ih0 _ _ _ _
      | exact LeO.none _
      | refine LeO.ite ?_ ?_
      | refine LeO.bind ?_ (fun _ => ?_)

theorem impl_hasOnly.mono : ∀ a0 a1 k, LeO (impl_hasOnly.f k a0 a1) (impl_hasOnly.f (k + 1) a0 a1) := by
  intro a0 a1 k
  have ih0 := impl_hasOnly.mono_l k
  unfold impl_hasOnly.f
  repeat' first
      | (with_reducible exact ih0 _ _ _ _)
      | (with_reducible exact LeO.refl _)
      | (with_reducible exact LeO.none _)
      | (with_reducible refine LeO.ite ?_ ?_)
      | (with_reducible refine LeO.bind ?_ (fun _ => ?_))
      | exact ih0 _ _ _ _
      | exact LeO.none _
      | refine LeO.ite ?_ ?_
      | refine LeO.bind ?_ (fun _ => ?_)

def impl_hasOnly.e (k : Nat) : Refl.Ent G := ⟨131, [(.c .str), (.c .str)], .one (.c .bool), fun x => impl_hasOnly.f k x.1 x.2⟩
def impl_hasOnly.pl0 : Refl.Pn G (Refl.PT G (impl_hasOnly.e 0).ol) := ⟨true, 0, ⟨[(0, .v (.c .str)), (1, .v (.c .str)), (7, .v (.c li)), (8, .v (.c li)), (4, .k (Value.bool false))], []⟩, fun k x => impl_hasOnly.l0 k x.1 x.2.1 x.2.2.1 x.2.2.2⟩
theorem impl_hasOnly.ok (k : Nat) : Refl.EntOK Try.prog (impl_hasOnly.e k) := Refl.ent_ok 1000000 k GC (fun k => [strings_IndexByte.e k]) (fun k => ⟨strings_IndexByte.ok k, trivial⟩) Try.func131 (by kernel_rfl) [impl_hasOnly.pl0] (ps := [impl_hasOnly.pl0]) (by kernel_rfl) ⟨⟨fun x => by kernel_rfl, fun k x => by kernel_rfl⟩, trivial⟩ (fun x => by kernel_rfl)

/-! ### impl_isWordOf: function 115 -/

def impl_isWordOf.f (k : Nat) (a0 : ByteArray) (a1 : ByteArray) : Option (Bool) := (impl_within.f (a0.size : Int) 1 8).bind fun t646 => (if t646 = true then ((impl_hasOnly.f k a0 a1).bind fun t647 => (some t647)) else (some false))

theorem impl_isWordOf.mono : ∀ a0 a1 k, LeO (impl_isWordOf.f k a0 a1) (impl_isWordOf.f (k + 1) a0 a1) := by
  intro a0 a1 k
  unfold impl_isWordOf.f
  repeat' first
      | (with_reducible exact impl_hasOnly.mono _ _ _)
      | (with_reducible exact LeO.refl _)
      | (with_reducible exact LeO.none _)
      | (with_reducible refine LeO.ite ?_ ?_)
      | (with_reducible refine LeO.bind ?_ (fun _ => ?_))
      | exact impl_hasOnly.mono _ _ _
      | exact LeO.none _
      | refine LeO.ite ?_ ?_
      | refine LeO.bind ?_ (fun _ => ?_)

def impl_isWordOf.e (k : Nat) : Refl.Ent G := ⟨115, [(.c .str), (.c .str)], .one (.c .bool), fun x => impl_isWordOf.f k x.1 x.2⟩
theorem impl_isWordOf.ok (k : Nat) : Refl.EntOK Try.prog (impl_isWordOf.e k) := Refl.ent_ok 1000000 k GC (fun k => [impl_within.e k, impl_hasOnly.e k]) (fun k => ⟨impl_within.ok k, impl_hasOnly.ok k, trivial⟩) Try.func115 (by kernel_rfl) [] (ps := []) (by kernel_rfl) trivial (fun x => by kernel_rfl)

/-! ### impl_IsGloss: function 77 -/

def impl_IsGloss.f (k : Nat) (a0 : ByteArray) : Option (Bool) := (impl_isWordOf.f k a0 (⟨#[65, 66, 67, 68, 69, 70, 71, 72, 73, 74, 75, 76, 77, 78, 79, 80, 81, 82, 83, 84, 85, 86, 87, 88, 89, 90]⟩ : ByteArray)).bind fun t648 => (some t648)

theorem impl_IsGloss.mono : ∀ a0 k, LeO (impl_IsGloss.f k a0) (impl_IsGloss.f (k + 1) a0) := by
  intro a0 k
  unfold impl_IsGloss.f
  repeat' first
      | (with_reducible exact impl_isWordOf.mono _ _ _)
      | (with_reducible exact LeO.refl _)
      | (with_reducible exact LeO.none _)
      | (with_reducible refine LeO.ite ?_ ?_)
      | (with_reducible refine LeO.bind ?_ (fun _ => ?_))
      | exact impl_isWordOf.mono _ _ _
      | exact LeO.none _
      | refine LeO.ite ?_ ?_
      | refine LeO.bind ?_ (fun _ => ?_)

def impl_IsGloss.e (k : Nat) : Refl.Ent G := ⟨77, [(.c .str)], .one (.c .bool), fun x => impl_IsGloss.f k x⟩
theorem impl_IsGloss.ok (k : Nat) : Refl.EntOK Try.prog (impl_IsGloss.e k) := Refl.ent_ok 1000000 k GC (fun k => [impl_isWordOf.e k]) (fun k => ⟨impl_isWordOf.ok k, trivial⟩) Try.func77 (by kernel_rfl) [] (ps := []) (by kernel_rfl) trivial (fun x => by kernel_rfl)

/-! ### impl_areItems: function 62 -/

def ai1.f (k : Nat) (a0 : ByteArray) : Option Bool := (impl_IsGloss.f k a0).bind fun t => some (!t)

def ai2.l0 : Nat → List ByteArray → Int → Int → Option Int
  | 0, _, _, _ => none
  | k + 1, l, n, i => if i < n then (if 0 ≤ i then (if i < (l.length : Int) then ((ai1.f k (rdOf ByteArray.empty l i)).bind fun t => if t = true then (some i) else (ai2.l0 k l n (wrap64 (i + 1)))) else (none)) else (none)) else (some (-1))

def ai2.f (k : Nat) (l : List ByteArray) : Option Int := ai2.l0 k l (l.length : Int) 0

def ai3.f (k : Nat) (l : List ByteArray) : Option Bool := (ai2.f k l).bind fun t => some (decide (t ≥ 0))

def ai4.f (k : Nat) (l : List ByteArray) : Option Bool := (ai3.f k l).bind fun t => some (!t)

def impl_areItems.f (k : Nat) (l0 : List ByteArray) : Option Bool := if (l0.length : Int) ≤ 20 then ((ai4.f k l0).bind fun t => some t) else (some false)

theorem ai1.mono : ∀ a0 k, LeO (ai1.f k a0) (ai1.f (k + 1) a0) := by
  intro a0 k
  unfold ai1.f
  exact LeO.bind (impl_IsGloss.mono _ _) (fun _ => LeO.refl _)

theorem ai2.mono_l : ∀ k l n i, LeO (ai2.l0 k l n i) (ai2.l0 (k + 1) l n i)
  | 0 => fun _ _ _ r h => by simp [ai2.l0] at h
  | k + 1 => by
    have ih := ai2.mono_l k
    intro l n i
    unfold ai2.l0
    repeat' first
    | (with_reducible exact ih _ _ _)
    | (with_reducible exact ai1.mono _ _)
    | exact LeO.refl _
    | exact LeO.none _
    | refine LeO.ite ?_ ?_
    | refine LeO.bind ?_ (fun _ => ?_)

theorem ai2.mono : ∀ l k, LeO (ai2.f k l) (ai2.f (k + 1) l) := fun l k => ai2.mono_l k _ _ _

theorem ai3.mono : ∀ l k, LeO (ai3.f k l) (ai3.f (k + 1) l) := fun l k => LeO.bind (ai2.mono _ _) (fun _ => LeO.refl _)

theorem ai4.mono : ∀ l k, LeO (ai4.f k l) (ai4.f (k + 1) l) := fun l k => LeO.bind (ai3.mono _ _) (fun _ => LeO.refl _)

theorem impl_areItems.mono : ∀ l0 k, LeO (impl_areItems.f k l0) (impl_areItems.f (k + 1) l0) := fun l0 k => LeO.ite (LeO.bind (ai4.mono _ _) (fun _ => LeO.refl _)) (LeO.refl _)

def impl_areItems.e (k : Nat) : Refl.Ent G := ⟨62, [(.c (.row 9 false))], .one (.c .bool), fun x => impl_areItems.f k x⟩
def ai1.e (k : Nat) : Refl.Ent G := ⟨125, [.c .str, .ref [.fn 77]], .one (.c .bool), fun x => ai1.f k x.1⟩
theorem ai1.ok (k : Nat) : Refl.EntOK Try.prog (ai1.e k) := Refl.ent_ok 1000000 k GC (fun k => [impl_IsGloss.e k]) (fun k => ⟨impl_IsGloss.ok k, trivial⟩) Try.func125 (by kernel_rfl) [] (ps := []) (by kernel_rfl) trivial (fun x => by kernel_rfl)
def ai2.e (k : Nat) : Refl.Ent G := ⟨123, [.c (.row 9 false), .clo 125 [[.fn 77]]], .one (.c li), fun x => ai2.f k x.1⟩
def ai2.p : Refl.Pn G (Refl.PT G (ai2.e 0).ol) := ⟨true, 0, ⟨[(0, .v (.c (.row 9 false))), (1, .v (.clo 125 [[.fn 77]])), (7, .v (.c li)), (8, .v (.c li)), (4, .k (.int .i64 0))], []⟩, fun k x => ai2.l0 k x.1 x.2.2.1 x.2.2.2⟩
theorem ai2.ok (k : Nat) : Refl.EntOK Try.prog (ai2.e k) := Refl.ent_ok 1000000 k GC (fun k => [ai1.e k]) (fun k => ⟨ai1.ok k, trivial⟩) Try.func123 (by kernel_rfl) [ai2.p] (ps := [ai2.p]) (by kernel_rfl) ⟨⟨fun x => by kernel_rfl, fun k x => by kernel_rfl⟩, trivial⟩ (fun x => by kernel_rfl)
def ai3.e (k : Nat) : Refl.Ent G := ⟨124, [.c (.row 9 false), .clo 125 [[.fn 77]]], .one (.c .bool), fun x => ai3.f k x.1⟩
theorem ai3.ok (k : Nat) : Refl.EntOK Try.prog (ai3.e k) := Refl.ent_ok 1000000 k GC (fun k => [ai2.e k]) (fun k => ⟨ai2.ok k, trivial⟩) Try.func124 (by kernel_rfl) [] (ps := []) (by kernel_rfl) trivial (fun x => by kernel_rfl)
def ai4.e (k : Nat) : Refl.Ent G := ⟨99, [.c (.row 9 false), .clo 77 []], .one (.c .bool), fun x => ai4.f k x⟩
theorem ai4.ok (k : Nat) : Refl.EntOK Try.prog (ai4.e k) := Refl.ent_ok 1000000 k GC (fun k => [ai3.e k]) (fun k => ⟨ai3.ok k, trivial⟩) Try.func99 (by kernel_rfl) [] (ps := []) (by kernel_rfl) trivial (fun x => by kernel_rfl)
theorem impl_areItems.ok (k : Nat) : Refl.EntOK Try.prog (impl_areItems.e k) := Refl.ent_ok 1000000 k GC (fun k => [ai4.e k]) (fun k => ⟨ai4.ok k, trivial⟩) Try.func62 (by kernel_rfl) [] (ps := []) (by kernel_rfl) trivial (fun x => by kernel_rfl)

/-! ### slices_Clone_string_string: function 56 -/

def slices_Clone_string_string.f (l0 : List ByteArray) : Option (List ByteArray) := if l0.length < 8796093022208 then some l0 else none
theorem slices_Clone_string_string.info : (Try.prog.info? 9).map (fun i => (i.zero, i.size, i.bytes)) = some (some (.string ⟨#[]⟩), 1, 16) := by kernel_rfl
set_option maxHeartbeats 4000000 in
set_option maxRecDepth 100000 in
theorem slices_Clone_string_string.calls (A0 : Option Addr) (c0 : Nat) (l0 : List ByteArray) (r : List ByteArray) (w : World) (hr0 : Kd.C Kd.string w A0 l0.length l0) (hc0 : l0.length ≤ c0) (h : slices_Clone_string_string.f l0 = some r) :
    Calls Try.prog 56 #[.slice A0 l0.length c0] w fun e w' => ∃ v0_ : Value, e = .returned (v0_) ∧ Kd.R Kd.string 9 w' w.heap.size (fun _ => True) v0_ r ∧ Below w.heap.size w w' := by
  have HB := Aside0.mk (Below.refl w.heap.size w)
  have hq := fun (W : World) a n c => Lib.run_eql_slice_nil (P := Try.prog) W 24 9 a n c 0 0 Try.underlying24
  unfold slices_Clone_string_string.f at h
  split at h
  · rename_i hl
    obtain rfl := Option.some.inj h
    cases A0 with
    | none =>
      have hz : l0 = [] := by
        rcases Nat.eq_zero_or_pos l0.length with h0 | h0
        · exact List.eq_nil_of_length_eq_zero h0
        · obtain ⟨ad, e, _⟩ := hr0.2.2 h0; cases e
      subst hz
      clear hr0 hc0 hl
      go_enter Try.func56, Try.ntmps56
      go_wp2
      go_ret
      exact ⟨_, rfl, Kd.R_nil _ _ _ _ _, HB.out⟩
    | some ad =>
      have HR0 := Aside0.mk hr0
      have LM := Aside0.mk hl
      clear hr0 hc0 hl
      go_enter Try.func56, Try.ntmps56
      go_wp2_with (first | ((with_reducible refine gate_dst (N := 5) rfl ?_); refine Kd.R_lit Kd.string _ 9 ?hg (N := 5) ?hd (xs := ([] : List ByteArray)) (inner := []) (ok := fun _ => True) (okp := fun _ => True) ?hr ?hp (fun _ hk => hk) trivial (Below.refl _ _) (Nat.le_refl _) (by simp) ?_; (case hd => rfl); (case hg => rfl); (case hr => first | (go_simp; done) | (go_simp; rfl)); (case hp => exact (Reps.none _ _)); intro v1 w4 ho5 hb hg_ hnew_; clear hg_ hnew_; have n0_ := Aside0.mk (Kd.R_lower ho5 (below_size (by repeat (first | (with_reducible first | exact HB.out | apply below_alloc | apply pw_below_drewN | apply below_drew1) | exact HB.out)))); have n1_ := Aside0.mk (below_step (by repeat (first | (with_reducible first | exact HB.out | apply below_alloc | apply pw_below_drewN | apply below_drew1) | exact HB.out)) hb); clear HB; have HO := n0_; have HB := n1_; clear n0_ n1_; clear hb ho5) | ((with_reducible refine gate_builtin (b := .append) (xs := #[.tmp 5, .tmp 6]) rfl ?_); at_builtin; refine Kd.R_append_rows Kd.string (w0 := w) w.heap.size rfl (.tmp 5) (.tmp 6) 24 9 (.string ⟨#[]⟩) 16 rfl Try.underlying24 slices_Clone_string_string.info rfl (by decide) (by omega) v1 [] l0 _ _ _ (fun _ => True) (fun _ => False) rfl rfl ?aO ?aR (fun _ _ h => h) (fun _ h => h.elim) ?aF ?aB ?aS ?aL ?_; (case aR => repeat (first | exact (Kd.C_below HR0.out HB.out) | (with_reducible refine Kd.C_alloc ?_ _) | (with_reducible refine Kd.C_drewN ?_ _) | (with_reducible refine Kd.C_drew ?_))); (case aB => exact (by repeat (first | (with_reducible first | exact HB.out | apply below_alloc | apply pw_below_drewN | apply below_drew1) | exact HB.out))); (case aF => exact (fun _ _ => trivial)); (case aO => exact (by (with_reducible repeat (first | apply Kd.R_alloc | apply Kd.R_drewN | apply Kd.R_drew)); exact HO.out)); (case aS => exact (below_size (by repeat (first | (with_reducible first | exact HB.out | apply below_alloc | apply pw_below_drewN | apply below_drew1) | exact HB.out)))); (case aL => have := LM.out; simp; omega); intro v2 w6 ho hb hg hat; have n0_ := Aside0.mk (hb); have n1_ := Aside0.mk (ho); clear HB; clear HO; have HB := n0_; have HO := n1_; clear n0_ n1_; clear ho hb hg hat))
      go_ret
      exact ⟨_, rfl, by (with_reducible repeat (first | apply Kd.R_alloc | apply Kd.R_drewN | apply Kd.R_drew)); exact HO.out, (by repeat (first | (with_reducible first | exact HB.out | apply below_alloc | apply pw_below_drewN | apply below_drew1) | exact HB.out))⟩
  · cases h

def slices_Clone_string_string.e (k : Nat) : Refl.Ent G := ⟨56, [(.c (.row 9 false))], .one (.c (.row 9 true)), fun x => slices_Clone_string_string.f x⟩
theorem slices_Clone_string_string.ok (k : Nat) : Refl.EntOK Try.prog (slices_Clone_string_string.e k) := Refl.entOK_new Try.func56 (by kernel_rfl) (fun x y h S w vals hv => by
  cases vals with
  | nil => exact hv.elim
  | cons y0 vals =>
    cases vals with
    | cons _ _ => exact hv.2.elim
    | nil =>
      obtain ⟨A, c, rfl, hc, hC⟩ := c_of Kd.string rkStr (fun _ _ => rfl) rfl hv.1
      refine (slices_Clone_string_string.calls A c x y w hC hc h).mono ?_
      rintro en w' ⟨v, rfl, hR, hb⟩
      obtain ⟨μ, m1, m2, m3⟩ := Refl.newRow_rep (Γ := G) (q := 9) (S := S) (new_of Kd.string rkStr (fun _ _ _ _ _ h => h) rfl hR)
      exact ⟨μ, [.f (.c (.row 9 y (.tok 0 0)))], [v], [.row 9 y (.tok 0 0)], rfl, hb, m1, m2, ⟨m3, trivial⟩, by kernel_rfl, by kernel_rfl, by kernel_rfl⟩)

/-! ### impl_isDeskEdit: function 66 -/

def impl_isDeskEdit.f (k : Nat) (a0_0 : Int) (a0_1 : Int) (a0_2 : ByteArray) (a0_3 : ByteArray) : Option (Bool) := (impl_within.f a0_1 0 20).bind fun t650 => (if t650 = true then (if a0_0 = 0 then ((impl_IsGloss.f k a0_2).bind fun t651 => (if t651 = true then (some (a0_3.toList == ([] : List UInt8))) else (some false))) else (if a0_0 = 1 then (if a0_2.toList = ([] : List UInt8) then ((impl_IsGloss.f k a0_3).bind fun t652 => (some t652)) else (some false)) else (if a0_0 = 2 then ((impl_IsGloss.f k a0_2).bind fun t653 => (if t653 = true then ((impl_IsGloss.f k a0_3).bind fun t654 => (if t654 = true then (some (a0_2.toList != a0_3.toList)) else (some false))) else (some false))) else (some false)))) else (some false))

theorem impl_isDeskEdit.mono : ∀ a0 a1 a2 a3 k, LeO (impl_isDeskEdit.f k a0 a1 a2 a3) (impl_isDeskEdit.f (k + 1) a0 a1 a2 a3) := by
  intro a0 a1 a2 a3 k
  unfold impl_isDeskEdit.f
  repeat' first
      | (with_reducible exact impl_IsGloss.mono _ _)
      | (with_reducible exact LeO.refl _)
      | (with_reducible exact LeO.none _)
      | (with_reducible refine LeO.ite ?_ ?_)
      | (with_reducible refine LeO.bind ?_ (fun _ => ?_))
      | exact impl_IsGloss.mono _ _
      | exact LeO.none _
      | refine LeO.ite ?_ ?_
      | refine LeO.bind ?_ (fun _ => ?_)

def impl_isDeskEdit.e (k : Nat) : Refl.Ent G := ⟨66, [(.agg [li, li, .str, .str])], .one (.c .bool), fun x => impl_isDeskEdit.f k x.1 x.2.1 x.2.2.1 x.2.2.2⟩
theorem impl_isDeskEdit.ok (k : Nat) : Refl.EntOK Try.prog (impl_isDeskEdit.e k) := Refl.ent_ok 1000000 k GC (fun k => [impl_within.e k, impl_IsGloss.e k]) (fun k => ⟨impl_within.ok k, impl_IsGloss.ok k, trivial⟩) Try.func66 (by kernel_rfl) [] (ps := []) (by kernel_rfl) trivial (fun x => by kernel_rfl)

theorem impl_isDeskEdit.calls (k : Nat) (a0_0 : Int) (a0_1 : Int) (a0_2 : ByteArray) (a0_3 : ByteArray) (r : Bool) (w : World) (h : impl_isDeskEdit.f k a0_0 a0_1 a0_2 a0_3 = some r) :
    Calls Try.prog 66 #[.agg #[.int .i64 a0_0, .int .i64 a0_1, .string a0_2, .string a0_3]] w fun e w' => e = .returned (.bool r) ∧ Below w.heap.size w w' :=
 Refl.EntOK.flat (impl_isDeskEdit.ok k) (a0_0, a0_1, a0_2, a0_3) r h (by kernel_rfl) (by kernel_rfl) (by kernel_rfl) (by kernel_rfl) w

/-! ### impl_itemAt: function 101 -/

-- JOINS  | BOXES 
def impl_itemAt.f (l0 : List ByteArray) (a1 : Int) : Option (ByteArray) := (impl_within.f a1 0 (wrap64 ((l0.length : Int) - 1))).bind fun t655 => (if t655 = true then (if 0 ≤ a1 then (if a1 < (l0.length : Int) then (some (rdOf ByteArray.empty l0 a1)) else (none)) else (none)) else (some (⟨#[]⟩ : ByteArray)))
set_option maxHeartbeats 8000000 in
set_option maxRecDepth 100000 in
theorem impl_itemAt.calls (A0 : Option Addr) (c0 : Nat) (l0 : List ByteArray) (a1 : Int) (r : ByteArray) (w : World) (hr0 : Kd.C Kd.string w A0 l0.length l0) (hc0 : l0.length ≤ c0) (h : impl_itemAt.f l0 a1 = some r) :
    Calls Try.prog 101 #[.slice A0 l0.length c0, .int .i64 a1] w fun e w' => e = .returned (.string r) ∧ Drawn0 w w' := by
  have HR0 := Aside0.mk hr0
  have HC0 := Aside0.mk hc0
  clear hr0 hc0
  have H : ((impl_within.f a1 0 (wrap64 ((l0.length : Int) - 1))).bind fun t655 => (if t655 = true then (if 0 ≤ a1 then (if a1 < (l0.length : Int) then (some (rdOf ByteArray.empty l0 a1)) else (none)) else (none)) else (some (⟨#[]⟩ : ByteArray)))) = some r := h
  clear h
  replace H := Option.bind_eq_some_iff.mp H
  obtain ⟨t655, A30, H⟩ := H
  replace H : (if t655 = true then (if 0 ≤ a1 then (if a1 < (l0.length : Int) then (some (rdOf ByteArray.empty l0 a1)) else (none)) else (none)) else (some (⟨#[]⟩ : ByteArray))) = some r := H
  have A3 := Aside0.mk A30
  clear A30
  by_cases c4 : t655 = true
  · subst c4
    have H1 : (if 0 ≤ a1 then (if a1 < (l0.length : Int) then (some (rdOf ByteArray.empty l0 a1)) else (none)) else (none)) = some r := by rw [if_pos rfl] at H; exact H
    clear H
    have H := H1
    clear H1
    by_cases c5 : 0 ≤ a1
    · rw [if_pos c5] at H
      have c5b0 : decide (0 ≤ a1) = true := decide_eq_true c5
      clear c5
      by_cases c6 : a1 < (l0.length : Int)
      · rw [if_pos c6] at H
        have c6b0 : decide (a1 < (l0.length : Int)) = true := decide_eq_true c6
        clear c6
        obtain rfl := Option.some.inj H
        go_enter Try.func101, Try.ntmps101
        go_wp2_with (first | ((with_reducible refine gate_callee (f := 65) rfl ?_); refine goesL_ (some 9) rfl rfl Try.func65 (by kernel_rfl) rfl #[.int .i64 a1, .int .i64 0, .int .i64 (wrap64 ((l0.length : Int) - 1))] rfl (by (try simp only [List.map_toArray, List.map_cons, List.map_nil]); first | done | rfl | (simp only [List.length_drop, List.length_take]; rfl)) ?_; (with_reducible refine (impl_within.calls a1 0 (wrap64 ((l0.length : Int) - 1)) true _ A3.out).mono ?_); rintro e w' ⟨rfl, ⟨nd, rfl⟩⟩; refine ⟨_, rfl, ?_⟩; have p656 : 0 ≤ (a1 : Int) := of_decide_eq_true (by first | (with_reducible assumption) | assumption); have q656 : a1 < (l0.length : Int) := of_decide_eq_true (by first | (with_reducible assumption) | assumption); obtain ⟨ad656, e656, hx656_0⟩ := Kd.at_string HR0.out a1 p656 q656; cases e656; replace p656 := eq_true p656; replace q656 := eq_true q656))
        go_ret
        exact ⟨by first | rfl | (simp; done) | (simp [*]; done), by repeat (first | exact Drawn0.refl _ | apply Drawn0.step)⟩
      · rw [if_neg c6] at H
        exact absurd H (by simp)
    · rw [if_neg c5] at H
      exact absurd H (by simp)
  · replace c4 := Bool.eq_false_iff.mpr c4
    subst c4
    have H1 : (some (⟨#[]⟩ : ByteArray)) = some r := by rw [if_neg (show ¬ (false = true) by decide)] at H; exact H
    clear H
    have H := H1
    clear H1
    obtain rfl := Option.some.inj H
    go_enter Try.func101, Try.ntmps101
    go_wp2_with (first | ((with_reducible refine gate_callee (f := 65) rfl ?_); refine goesL_ (some 9) rfl rfl Try.func65 (by kernel_rfl) rfl #[.int .i64 a1, .int .i64 0, .int .i64 (wrap64 ((l0.length : Int) - 1))] rfl (by (try simp only [List.map_toArray, List.map_cons, List.map_nil]); first | done | rfl | (simp only [List.length_drop, List.length_take]; rfl)) ?_; (with_reducible refine (impl_within.calls a1 0 (wrap64 ((l0.length : Int) - 1)) false _ A3.out).mono ?_); rintro e w' ⟨rfl, ⟨nd, rfl⟩⟩; refine ⟨_, rfl, ?_⟩))
    go_ret
    exact ⟨by first | rfl | (simp; done) | (simp [*]; done), by repeat (first | exact Drawn0.refl _ | apply Drawn0.step)⟩

def impl_itemAt.e (k : Nat) : Refl.Ent G := ⟨101, [(.c (.row 9 false)), (.c li)], .one (.c .str), fun x => impl_itemAt.f x.1 x.2⟩
theorem impl_itemAt.ok (k : Nat) : Refl.EntOK Try.prog (impl_itemAt.e k) := Refl.ent_ok 1000000 k GC (fun k => [impl_within.e k]) (fun k => ⟨impl_within.ok k, trivial⟩) Try.func101 (by kernel_rfl) [] (ps := []) (by kernel_rfl) trivial (fun x => by kernel_rfl)

/-! ### impl_made: function 63 -/

def insRen : Go.Shelf.Ren := ⟨fun | 22 => 100 | 17 => 151 | 29 => 126 | 30 => 127 | 36 => 136 | n => n, fun | 24 => 24 | 9 => 9 | 3 => 3 | 4 => 4 | 0 => 0 | n => n, fun | n => n⟩
theorem insLays : Go.Proofs.Lays2.n22 Try.prog insRen := {
  mixed := by kernel_rfl
  f17 := Try.func151.trans (congrArg some (by kernel_rfl))
  f22 := Try.func100.trans (congrArg some (by kernel_rfl))
  f29 := Try.func126.trans (congrArg some (by kernel_rfl))
  f30 := Try.func127.trans (congrArg some (by kernel_rfl))
  f36 := Try.func136.trans (congrArg some (by kernel_rfl))
  t0 := Try.underlying0
  a0 := Try.isAgg0
  z0 := Try.sizeOf0
  v0 := Try.zeroValue0
  t3 := Try.underlying3
  a3 := Try.isAgg3
  z3 := Try.sizeOf3
  v3 := Try.zeroValue3
  t4 := Try.underlying4
  a4 := Try.isAgg4
  z4 := Try.sizeOf4
  v4 := Try.zeroValue4
  t9 := Try.underlying9
  a9 := Try.isAgg9
  z9 := Try.sizeOf9
  v9 := Try.zeroValue9
  t24 := Try.underlying24
  a24 := Try.isAgg24
  z24 := Try.sizeOf24
  v24 := Try.zeroValue24
  i9 := by kernel_rfl }
theorem below_cells {a : World} (b : Nat) (hb : a.heap.size ≤ b) : ∀ (vs : List Value) (o : Nat) {w : World}, Below a.heap.size a w → Below a.heap.size a (w.setCells b o vs)
  | [], _, _, h => h
  | v :: r, o, _, h => below_cells b hb r (o + 1) (below_set h hb)
theorem strR_made {w : World} {base g cap : Nat} {cur : Array Value} {ys : List ByteArray} (hh : w.heap[g]? = some (.cells cur 9 (0, 0))) (hb : base ≤ g) (hn : ys.length ≤ cap) (hc : cap ≤ maxLen) (hs : cur.size = cap) (ht : cur.toList.take ys.length = ys.map Value.string) :
    Kd.R Kd.string 9 w base (fun _ => True) (.slice (some ⟨g, 0, none⟩) ys.length cap) ys := by
  refine Kd.R_of_own ⟨by rw [encs_length, Nat.mul_one], .inr ⟨g, cap, cur, rfl, hb, hh, hn, hc, by rw [hs, Nat.mul_one], by rw [Nat.mul_one]; exact ht⟩⟩ (fun _ _ => trivial)
theorem zero_size (n : Nat) : (Builtin.zeroCells (Value.string ⟨#[]⟩).cells n).size = n := by
  unfold Builtin.zeroCells; simp [Value.cells]
theorem grown_ok (w : World) (n c : Nat) (e : TypeId) (h : n ≤ 2000000) : n ≤ grownCap w n c e ∧ grownCap w n c e ≤ maxLen := ⟨grownCap_ge _ _ _ _, grownCap_le_maxLen _ _ _ _ (by unfold maxLen; omega)⟩
/-- slices.Insert of one text into a row of one's own. -/
theorem insR {W0 w : World} {v : Value} {xs : List ByteArray} (i : Nat) (s : ByteArray) (vb vc : Nat) (HO : Kd.R Kd.string 9 w W0.heap.size (fun _ => True) v xs) (HB : Below W0.heap.size W0 w)
    (hi : i ≤ xs.length) (hs : xs.length ≤ 1000000) (hv : w.heap[vb]? = some (.cells #[.string s] 9 (0, 0))) (hne : some vb ≠ v.ownBlock) :
    Calls Try.prog 100 #[v, .int .i64 (i : Int), .slice (some ⟨vb, 0, none⟩) 1 vc] w fun e w' => ∃ v', e = .returned v' ∧ Kd.R Kd.string 9 w' W0.heap.size (fun _ => True) v' (xs.take i ++ s :: xs.drop i) ∧ Below W0.heap.size W0 w' := by
  have hbase : W0.heap.size ≤ w.heap.size := HB.size
  have hvs : ∀ j u, ([Value.string s] : List Value)[j]? = some u → w.cell? ⟨vb, 0 + j, none⟩ = some u := by
    intro j u hj
    rw [Nat.zero_add, blk_cell hv j]
    cases j with
    | zero => simpa using hj
    | succ j => simp at hj
  have h1v : ∀ u ∈ ([Value.string s] : List Value), u.oneCell' = true := by simp [Value.oneCell']
  have h1c : ∀ u ∈ xs.map Value.string, u.oneCell' = true := by simp [Value.oneCell']
  have hlen : (xs.take i ++ s :: xs.drop i).length = xs.length + 1 := by simp; omega
  rcases (Kd.own_of_R HO).2 with ⟨hv0, hn0⟩ | ⟨g, cap, cur, hv0, hb, hh, hle, hcm, hcs, htake⟩
  · have hx : xs = [] := List.eq_nil_of_length_eq_zero hn0
    subst hx
    have hi0 : i = 0 := by simpa using hi
    subst hi0
    rw [hv0]
    refine (Any2.slices_Insert_string_end_grow insLays none 0 0 vb 0 1 vc [] [.string s] w (by omega) (by omega) (by omega) (by omega) rfl rfl (fun _ => rfl) (fun a h => by cases h) hvs h1v).mono ?_
    rintro e w' ⟨rfl, rfl⟩
    have hg := grown_ok w (0 + 1) 0 (insRen.t 9) (by omega)
    obtain ⟨G, hG⟩ : ∃ G, G = grownCap w (0 + 1) 0 (insRen.t 9) := ⟨_, rfl⟩
    rw [← hG] at hg ⊢
    refine ⟨_, rfl, ?_, below_alloc (below_drew1 HB) _⟩
    exact strR_made (cap := G) (ys := [s]) (heap_alloc_new w.drew (.cells (([] ++ [Value.string s]).toArray ++ Builtin.zeroCells (Value.string ⟨#[]⟩).cells (G - (0 + 1))) 9)) hbase hg.1 hg.2 (by simp [zero_size]; omega) (by simp)
  · have hcs' : cur.size = cap := by rw [hcs, Nat.mul_one]
    have ht' : cur.toList.take xs.length = xs.map Value.string := by rw [Nat.mul_one] at htake; exact htake
    subst hv0
    have hvg : vb ≠ g := fun e => hne (by rw [e]; rfl)
    have hcl : (xs.map Value.string).length = xs.length := List.length_map _
    have hC : cur.toList.length = cap := by rw [Array.length_toList, hcs']
    have hcell : ∀ j u, (xs.map Value.string)[j]? = some u → w.cell? ⟨g, 0 + j, none⟩ = some u := by
      intro j u hj
      rw [Nat.zero_add, blk_cell hh j]
      rw [← ht', List.getElem?_take] at hj
      split at hj
      · rw [← hj, Array.getElem?_toList]
      · cases hj
    by_cases hin : i < xs.length
    · by_cases hroom : xs.length + 1 ≤ cap
      · refine (Any2.slices_Insert_string_shift insLays g 0 xs.length cap i vb 0 1 vc (xs.map Value.string) [.string s] w hin (by omega) hroom (by unfold maxLen at hcm; omega) hvg hcl rfl hcell (fun j hj => ?_) (fun j hj => blk_frozen hh _) hvs h1c h1v 9 9 1 cap (by simp [World.shape?, hv]) (by simp [World.shape?, hh, hcs']) (by omega) (blk_frozen hv _) (blk_frozen hv _)).mono ?_
        · rw [blk_cell hh, Array.getElem?_eq_getElem (by omega)]; rfl
        rintro e w' ⟨rfl, rfl⟩
        obtain ⟨cur1, h1, h2, h3⟩ := setCells_row (e := 9) ((xs.map Value.string).drop i) (0 + (i + 1)) w.drew cur hh (by simp; omega)
        obtain ⟨cur2, h4, h5, h6⟩ := setCells_row (e := 9) [.string s] (0 + i) _ cur1 h1 (by simp; omega)
        refine ⟨_, rfl, ?_, below_cells _ hb _ _ (below_cells _ hb _ _ (below_drew1 HB))⟩
        have e1 : cur1.toList.take i = (xs.map Value.string).take i := by
          rw [h3, ← ht', List.append_assoc, List.take_append_of_le_length (by simp; omega), List.take_take, List.take_take]
          congr 1; omega
        have e2 : cur1.toList.drop (i + 1) = (xs.map Value.string).drop i ++ cur.toList.drop (0 + (i + 1) + ((xs.map Value.string).drop i).length) := by
          rw [h3, List.append_assoc, List.drop_append_of_le_length (by simp; omega), List.drop_eq_nil_of_le (by simp; omega), List.nil_append]
        have e3 : cur2.toList.take (xs.length + 1) = (xs.take i ++ s :: xs.drop i).map Value.string := by
          rw [h6, Nat.zero_add, e1, show i + [Value.string s].length = i + 1 from rfl, e2, ← List.append_assoc, List.take_append_of_le_length (by simp; omega), List.take_of_length_le (by simp; omega)]
          simp
        have := strR_made (ys := xs.take i ++ s :: xs.drop i) h4 hb (by rw [hlen]; exact hroom) hcm (by rw [h5, h2, hcs']) (by rw [hlen]; exact e3)
        rw [hlen] at this
        exact this
      · refine (Any2.slices_Insert_string_grow insLays g 0 xs.length cap i vb 0 1 vc (xs.map Value.string) [.string s] w hin (by omega) hle (by omega) (by omega) hcl rfl hcell hvs h1c h1v).mono ?_
        rintro e w' ⟨rfl, rfl⟩
        have hg := grown_ok w (xs.length + 1) cap 9 (by omega)
        obtain ⟨G, hG⟩ : ∃ G, G = grownCap w (xs.length + 1) cap 9 := ⟨_, rfl⟩
        rw [show insRen.t 9 = 9 from rfl, ← hG]
        rw [← hG] at hg
        obtain ⟨cur1, h1, h2, h3⟩ := setCells_row (e := 9) [.string s] i ((w.alloc (.cells (((xs.map Value.string).take i).toArray ++ Builtin.zeroCells (Value.string ⟨#[]⟩).cells (xs.length + 1 - i) ++ Builtin.zeroCells (Value.string ⟨#[]⟩).cells (G - (xs.length + 1))) 9)).drew) _ (heap_alloc_new _ _) (by simp [zero_size]; omega)
        obtain ⟨cur2, h4, h5, h6⟩ := setCells_row (e := 9) ((xs.map Value.string).drop i) (i + 1) (World.drew (World.setCells _ w.heap.size i [.string s])) cur1 h1 (by rw [h2]; simp [zero_size]; omega)
        refine ⟨_, rfl, ?_, below_cells _ hbase _ _ (below_drew1 (below_cells _ hbase _ _ (below_drew1 (below_alloc HB _))))⟩
        have hs1 : cur1.size = G := by rw [h2]; simp [zero_size]; omega
        have e1 : cur1.toList.take (i + 1) = (xs.map Value.string).take i ++ [.string s] := by
          rw [h3, List.take_append_of_le_length (by simp [zero_size]; omega), List.take_of_length_le (by simp [zero_size]; omega)]
          congr 1
          rw [Array.toList_append, Array.toList_append, List.append_assoc, List.take_append_of_le_length (by simp; omega), List.take_of_length_le (by simp; omega)]
        have e3 : cur2.toList.take (xs.length + 1) = (xs.take i ++ s :: xs.drop i).map Value.string := by
          rw [h6, e1, List.take_append_of_le_length (by simp; omega), List.take_of_length_le (by simp; omega)]
          simp
        have := strR_made (ys := xs.take i ++ s :: xs.drop i) h4 hbase (by rw [hlen]; exact hg.1) hg.2 (by rw [h5, hs1]) (by rw [hlen]; exact e3)
        rw [hlen] at this
        exact this
    · have hie : i = xs.length := by omega
      subst hie
      by_cases hroom : xs.length + 1 ≤ cap
      · refine (Any2.slices_Insert_string_end_room insLays g 0 xs.length cap vb 0 1 vc [.string s] w (by omega) hroom (by unfold maxLen at hcm; omega) rfl (fun j hj => ?_) (fun j hj => blk_frozen hh _) hvs h1v).mono ?_
        · rw [blk_cell hh, Array.getElem?_eq_getElem (by omega)]; rfl
        rintro e w' ⟨rfl, rfl⟩
        obtain ⟨cur1, h1, h2, h3⟩ := setCells_row (e := 9) [.string s] (0 + xs.length) w cur hh (by simp; omega)
        refine ⟨_, rfl, ?_, below_cells _ hb _ _ HB⟩
        have e3 : cur1.toList.take (xs.length + 1) = (xs.take xs.length ++ s :: xs.drop xs.length).map Value.string := by
          rw [h3, Nat.zero_add, ht', List.take_append_of_le_length (by simp), List.take_of_length_le (by simp)]
          simp
        have := strR_made (ys := xs.take xs.length ++ s :: xs.drop xs.length) h1 hb (by rw [hlen]; exact hroom) hcm (by rw [h2, hcs']) (by rw [hlen]; exact e3)
        rw [hlen] at this
        exact this
      · refine (Any2.slices_Insert_string_end_grow insLays (some ⟨g, 0, none⟩) xs.length cap vb 0 1 vc (xs.map Value.string) [.string s] w (by omega) hle (by omega) (by omega) hcl rfl (fun h => by cases h) (fun a ha j u hj => ?_) hvs h1v).mono ?_
        · cases ha
          have := hcell j u hj
          rw [Nat.zero_add] at this
          rw [add_plain]
          exact this
        rintro e w' ⟨rfl, rfl⟩
        have hg := grown_ok w (xs.length + 1) cap 9 (by omega)
        obtain ⟨G, hG⟩ : ∃ G, G = grownCap w (xs.length + 1) cap 9 := ⟨_, rfl⟩
        rw [show insRen.t 9 = 9 from rfl, ← hG]
        rw [← hG] at hg
        refine ⟨_, rfl, ?_, below_alloc (below_drew1 HB) _⟩
        have := strR_made (cap := G) (ys := xs.take xs.length ++ s :: xs.drop xs.length) (heap_alloc_new w.drew (.cells ((xs.map Value.string ++ [Value.string s]).toArray ++ Builtin.zeroCells (Value.string ⟨#[]⟩).cells (G - (xs.length + 1))) 9)) hbase (by rw [hlen]; exact hg.1) hg.2 (by simp [zero_size]; omega) (by rw [hlen, Array.toList_append, List.take_append_of_le_length (by simp), List.take_of_length_le (by simp)]; simp)
        rw [hlen] at this
        exact this
/-- slices.Delete of one text out of a row of one's own. -/
theorem delR {W0 w : World} {v : Value} {xs : List ByteArray} (i : Nat) (HO : Kd.R Kd.string 9 w W0.heap.size (fun _ => True) v xs) (HB : Below W0.heap.size W0 w) (hi : i < xs.length) :
    Calls Try.prog 102 #[v, .int .i64 (i : Int), .int .i64 ((i : Int) + 1)] w fun e w' => ∃ v', e = .returned v' ∧ Kd.R Kd.string 9 w' W0.heap.size (fun _ => True) v' (xs.eraseIdx i) ∧ Below W0.heap.size W0 w' := by
  have hbase : W0.heap.size ≤ w.heap.size := HB.size
  rcases (Kd.own_of_R HO).2 with ⟨hv0, hn0⟩ | ⟨g, cap, cur, hv0, hb, hh, hle, hcm, hcs, htake⟩
  · omega
  · have hcs' : cur.size = cap := by rw [hcs, Nat.mul_one]
    have ht' : cur.toList.take xs.length = xs.map Value.string := by rw [Nat.mul_one] at htake; exact htake
    subst hv0
    have hcell : ∀ j, j < xs.length → w.cell? ⟨g, 0 + j, none⟩ = some (.string (xs.getD j ⟨#[]⟩)) := by
      intro j hj
      have h1 : (cur.toList.take xs.length)[j]? = some (.string (xs.getD j ⟨#[]⟩)) := by rw [ht', List.getElem?_map]; simp [hj]
      rw [Nat.zero_add, blk_cell hh j]
      rw [List.getElem?_take, if_pos hj] at h1
      rw [← h1, Array.getElem?_toList]
    refine (Try.slices_Delete_string_cells g 0 xs.length cap i (i + 1) (fun j => xs.getD j ⟨#[]⟩) w hle (by unfold maxLen at hcm; omega) (by omega) (by omega) hcell (fun j _ => blk_frozen hh _)).mono ?_
    rintro e w' ⟨rfl, q, rfl⟩
    have hS : (Lib.strsOf (fun j => xs.getD j ⟨#[]⟩) xs.length).map encStr = xs.map Value.string := by
      unfold Lib.strsOf
      rw [List.map_map]
      apply List.ext_getElem?
      intro j
      rw [List.getElem?_map, List.getElem?_map]
      by_cases hj : j < xs.length
      · rw [List.getElem?_range hj]; simp [hj]
      · rw [List.getElem?_eq_none (l := List.range _) (by simp; omega), List.getElem?_eq_none (l := xs) (by omega)]; rfl
    obtain ⟨cur1, h1, h2, h3⟩ := setCells_row (e := 9) (((Lib.strsOf (fun j => xs.getD j ⟨#[]⟩) xs.length).take i ++ (Lib.strsOf (fun j => xs.getD j ⟨#[]⟩) xs.length).drop (i + 1) ++ List.replicate (i + 1 - i) []).map encStr) 0 (w.drewN q) cur hh (by simp [Lib.strsOf]; omega)
    have hel : (xs.eraseIdx i).length = xs.length - 1 := List.length_eraseIdx_of_lt hi
    refine ⟨_, rfl, ?_, below_cells _ hb _ _ (pw_below_drewN HB _)⟩
    have e3 : cur1.toList.take (xs.length - 1) = (xs.eraseIdx i).map Value.string := by
      rw [h3, List.take_zero, List.nil_append, List.map_append, List.map_append, List.map_take, List.map_drop, hS, ← List.map_take, ← List.map_drop, ← List.map_append, ← List.eraseIdx_eq_take_drop_succ, List.append_assoc, List.take_append_of_le_length (by simp [hel]), List.take_of_length_le (by simp [hel])]
    have := strR_made (ys := xs.eraseIdx i) h1 hb (by rw [hel]; omega) hcm (by rw [h2, hcs']) (by rw [hel]; exact e3)
    rw [hel] at this
    rw [show xs.length - (i + 1 - i) = xs.length - 1 by omega]
    exact this
/-- The items after edits. -/
def madeL (k : Nat) : List ByteArray → List S38 → Option (List ByteArray × Bool)
  | l, [] => some (l, true)
  | l, e :: es => (impl_isDeskEdit.f k e.f0 e.f1 e.f2 e.f3).bind fun t => if t = true then
      (if 0 ≤ e.f1 ∧ l.length ≤ 1000000 then
        (if e.f0 = 0 then (if e.f1 > (l.length : Int) then some ([], false) else if (l.length : Int) = 20 then some ([], false) else madeL k (l.take e.f1.toNat ++ e.f2 :: l.drop e.f1.toNat) es)
        else (impl_itemAt.f l e.f1).bind fun s => if (s.toList != e.f3.toList) = true then some ([], false) else
          if e.f1 < (l.length : Int) then (if e.f0 = 1 then madeL k (l.eraseIdx e.f1.toNat) es else madeL k (l.set e.f1.toNat e.f2) es) else none) else none)
      else some ([], false)
def impl_made.f (k : Nat) (l0 : List ByteArray) (l1 : List S38) : Option (List ByteArray × Bool) := if l1.length ≤ 1000000 then (slices_Clone_string_string.f l0).bind fun y => madeL k y l1 else none
theorem madeL.mono (k : Nat) : ∀ es l, LeO (madeL k l es) (madeL (k + 1) l es)
  | [], l => LeO.refl _
  | e :: es, l => by
    simp only [madeL]
    refine LeO.bind (impl_isDeskEdit.mono _ _ _ _ _) (fun t => ?_)
    refine LeO.ite (LeO.ite (LeO.ite (LeO.ite (LeO.refl _) (LeO.ite (LeO.refl _) (madeL.mono k es _))) (LeO.bind (LeO.refl _) (fun s => LeO.ite (LeO.refl _) (LeO.ite (LeO.ite (madeL.mono k es _) (madeL.mono k es _)) (LeO.refl _))))) (LeO.refl _)) (LeO.refl _)
theorem impl_made.mono : ∀ a0 a1 k, LeO (impl_made.f k a0 a1) (impl_made.f (k + 1) a0 a1) := by
  intro a0 a1 k
  unfold impl_made.f
  exact LeO.ite (LeO.bind (LeO.refl _) (fun _ => madeL.mono k _ _)) (LeO.refl _)
set_option maxHeartbeats 4000000 in
set_option maxRecDepth 100000 in
theorem impl_made.calls (k : Nat) (A0 : Option Addr) (c0 : Nat) (l0 : List ByteArray) (A1 : Option Addr) (c1 : Nat) (l1 : List S38) (r1 : List ByteArray) (r2 : Bool) (w : World) (hr0 : Kd.C Kd.string w A0 l0.length l0) (hc0 : l0.length ≤ c0) (hr1 : Kd.C k38 w A1 l1.length l1) (hc1 : l1.length ≤ c1) (h : impl_made.f k l0 l1 = some (r1, r2)) :
    Calls Try.prog 63 #[.slice A0 l0.length c0, .slice A1 l1.length c1] w fun e w' => ∃ v0_ : Value, e = .returned (.tuple #[v0_, .bool r2]) ∧ Kd.R Kd.string 9 w' w.heap.size (fun _ => True) v0_ r1 ∧ Below w.heap.size w w' := by
  have hu25 := Try.underlying38
  have huS := Try.underlying24
  have huL := Try.underlying25
  have HB := Aside0.mk (Below.refl w.heap.size w)
  unfold impl_made.f at h
  by_cases hlen1 : ¬ l1.length ≤ 1000000
  · rw [if_neg hlen1] at h; exact absurd h (by simp)
  have hlen1 : l1.length ≤ 1000000 := by omega
  rw [if_pos hlen1] at h
  obtain ⟨y, hy, hN⟩ := Option.bind_eq_some_iff.mp h
  clear h
  have h := hN
  clear hN
  have HY := Aside0.mk hy
  have HR0 := Aside0.mk hr0
  have HC0 := Aside0.mk hc0
  have HR1 := Aside0.mk hr1
  have HH := Aside0.mk h
  clear hy hr0 hc0 hr1 hc1 h
  go_enter Try.func63, Try.ntmps63
  go_wp2_with (go_at_call 56; (with_reducible refine (slices_Clone_string_string.calls _ _ l0 y _ (by repeat (first | exact (Kd.C_below HR0.out HB.out) | (with_reducible refine Kd.C_alloc ?_ _) | (with_reducible refine Kd.C_drewN ?_ _) | (with_reducible refine Kd.C_drew ?_))) HC0.out HY.out).mono ?_); rintro e wq ⟨v2, rfl, ho, hb⟩; have n0_ := Aside0.mk (below_step (by repeat (first | (with_reducible first | exact HB.out | apply below_alloc | apply pw_below_drewN | apply below_drew1) | exact HB.out)) hb); have n1_ := Aside0.mk (Kd.R_lower ho (below_size (by repeat (first | (with_reducible first | exact HB.out | apply below_alloc | apply pw_below_drewN | apply below_drew1) | exact HB.out)))); clear HB; have HB := n0_; have HO := n1_; clear n0_ n1_ hb ho)
  go_loopg [0, 12] (l1.length) (fun kq v0 v12 w' => ∃ (x : List ByteArray) (i : Nat), v12 = .int .i64 (i : Int) ∧ Aside0 (kq = l1.length - i) ∧ Aside0 (i ≤ l1.length) ∧ Aside0 (madeL k x (l1.drop i) = some (r1, r2)) ∧ Aside0 (Kd.R Kd.string 9 w' w.heap.size (fun _ => True) v0 x) ∧ Aside0 (Below w.heap.size w w'))
  case atStart => exact ⟨y, 0, rfl, ⟨rfl⟩, ⟨Nat.zero_le _⟩, HH, ⟨by (with_reducible repeat (first | apply Kd.R_alloc | apply Kd.R_drewN | apply Kd.R_drew)); exact HO.out⟩, ⟨(by repeat (first | (with_reducible first | exact HB.out | apply below_alloc | apply pw_below_drewN | apply below_drew1) | exact HB.out))⟩⟩
  case round =>
    clear HH HO
    obtain ⟨x, i, rfl, HK, HI, HM, HO, HB⟩ := hrel
    obtain ⟨Ax, cx, rfl, hcx, -⟩ := Kd.R_reads HO.out
    have HCX := Aside0.mk hcx
    clear hcx
    by_cases hlt : i < l1.length
    · have hwi : wrap64 ((i : Int) + 1) = ((i + 1 : Nat) : Int) := by unfold wrap64; omega
      have hM := HM.out
      rw [List.drop_eq_getElem_cons hlt] at hM
      simp only [madeL] at hM
      have hi0 : (0 : Int) ≤ (i : Int) := by omega
      have hi1 : (i : Int) < (l1.length : Int) := by omega
      obtain ⟨ad, eA, hx0, hx1, hx2, hx3⟩ := at_T38 (Kd.C_below HR1.out HB.out) (i : Int) hi0 hi1
      cases eA
      have e25 : rd_T38 l1 (i : Int) = l1[i] := by
        unfold rd_T38
        rw [List.getD_eq_getElem?_getD]
        simp [hlt]
      rw [e25] at hx0 hx1 hx2 hx3
      generalize l1[i] = ed at hM hx0 hx1 hx2 hx3
      obtain ⟨f0, f1, f2, f3⟩ := ed
      simp only [Int.toNat_natCast] at hM hx0 hx1 hx2 hx3
      obtain ⟨t, ht, hN⟩ := Option.bind_eq_some_iff.mp hM
      clear hM
      have hM := hN
      clear hN
      have HT := Aside0.mk ht
      clear ht e25
      cases t
      · simp only [Bool.false_eq_true, if_false, Option.some.injEq, Prod.mk.injEq] at hM
        obtain ⟨rfl, rfl⟩ := hM
        go_wp2_with (go_at_call 66; (with_reducible refine (impl_isDeskEdit.calls k f0 f1 f2 f3 false _ HT.out).mono ?_); rintro e wq ⟨rfl, hb⟩; have m0_ := Aside0.mk (blk_below (heap_alloc_new wr (.cells #[.int .i64 f0, .int .i64 f1, .string f2, .string f3] 38)) hb); have n0_ := Aside0.mk (below_step (by repeat (first | (with_reducible first | exact HB.out | apply below_alloc | apply pw_below_drewN | apply below_drew1) | exact HB.out)) hb); have n1_ := Aside0.mk (Kd.R_below (Kd.R_alloc HO.out (.cells #[.int .i64 f0, .int .i64 f1, .string f2, .string f3] 38)) hb); clear HB HO; have HB := n0_; have BK := m0_; have HO := n1_; clear n0_ m0_ n1_ hb; have hz0 : wq.cell? ⟨wr.heap.size, 0, none⟩ = some (.int .i64 f0) := (blk_cell BK.out 0).trans rfl; have hz1 : wq.cell? ⟨wr.heap.size, 1, none⟩ = some (.int .i64 f1) := (blk_cell BK.out 1).trans rfl; have hz2 : wq.cell? ⟨wr.heap.size, 2, none⟩ = some (.string f2) := (blk_cell BK.out 2).trans rfl; have hz3 : wq.cell? ⟨wr.heap.size, 3, none⟩ = some (.string f3) := (blk_cell BK.out 3).trans rfl)
        go_ret2
        exact ⟨_, by first | rfl | (simp; done), Kd.R_nil _ _ _ _ _, (by repeat (first | (with_reducible first | exact HB.out | apply below_alloc | apply pw_below_drewN | apply below_drew1) | exact HB.out))⟩
      · simp only [if_true] at hM
        by_cases hL : 0 ≤ f1 ∧ x.length ≤ 1000000
        · rw [if_pos hL] at hM
          obtain ⟨n1, rfl⟩ : ∃ n : Nat, f1 = (n : Int) := ⟨f1.toNat, by omega⟩
          have HL := Aside0.mk hL.2
          clear hL
          simp only [Int.toNat_natCast] at hM
          by_cases h0 : f0 = 0
          · rw [if_pos h0] at hM
            subst h0
            by_cases h1 : (n1 : Int) > (x.length : Int)
            · rw [if_pos h1] at hM
              simp only [Option.some.injEq, Prod.mk.injEq] at hM
              obtain ⟨rfl, rfl⟩ := hM
              have h1b : decide ((n1 : Int) > (x.length : Int)) = true := decide_eq_true h1
              have h1c : decide ((x.length : Int) < (n1 : Int)) = true := decide_eq_true h1
              have h1d : decide (x.length < n1) = true := decide_eq_true (by omega)
              go_wp2_with (go_at_call 66; (with_reducible refine (impl_isDeskEdit.calls k 0 (n1 : Int) f2 f3 true _ HT.out).mono ?_); rintro e wq ⟨rfl, hb⟩; have m0_ := Aside0.mk (blk_below (heap_alloc_new wr (.cells #[.int .i64 0, .int .i64 (n1 : Int), .string f2, .string f3] 38)) hb); have n0_ := Aside0.mk (below_step (by repeat (first | (with_reducible first | exact HB.out | apply below_alloc | apply pw_below_drewN | apply below_drew1) | exact HB.out)) hb); have n1_ := Aside0.mk (Kd.R_below (Kd.R_alloc HO.out (.cells #[.int .i64 0, .int .i64 (n1 : Int), .string f2, .string f3] 38)) hb); clear HB HO; have HB := n0_; have BK := m0_; have HO := n1_; clear n0_ m0_ n1_ hb; have hz0 : wq.cell? ⟨wr.heap.size, 0, none⟩ = some (.int .i64 0) := (blk_cell BK.out 0).trans rfl; have hz1 : wq.cell? ⟨wr.heap.size, 1, none⟩ = some (.int .i64 (n1 : Int)) := (blk_cell BK.out 1).trans rfl; have hz2 : wq.cell? ⟨wr.heap.size, 2, none⟩ = some (.string f2) := (blk_cell BK.out 2).trans rfl; have hz3 : wq.cell? ⟨wr.heap.size, 3, none⟩ = some (.string f3) := (blk_cell BK.out 3).trans rfl)
              go_ret2
              exact ⟨_, by first | rfl | (simp; done), Kd.R_nil _ _ _ _ _, (by repeat (first | (with_reducible first | exact HB.out | apply below_alloc | apply pw_below_drewN | apply below_drew1) | exact HB.out))⟩
            · rw [if_neg h1] at hM
              have h1b : decide ((n1 : Int) > (x.length : Int)) = false := decide_eq_false h1
              have h1c : decide ((x.length : Int) < (n1 : Int)) = false := decide_eq_false h1
              have h1d : decide (x.length < n1) = false := decide_eq_false (by omega)
              by_cases h2 : (x.length : Int) = 20
              · rw [if_pos h2] at hM
                simp only [Option.some.injEq, Prod.mk.injEq] at hM
                obtain ⟨rfl, rfl⟩ := hM
                have h2b : ((x.length : Int) == 20) = true := beq_iff_eq.mpr h2
                go_wp2_with (go_at_call 66; (with_reducible refine (impl_isDeskEdit.calls k 0 (n1 : Int) f2 f3 true _ HT.out).mono ?_); rintro e wq ⟨rfl, hb⟩; have m0_ := Aside0.mk (blk_below (heap_alloc_new wr (.cells #[.int .i64 0, .int .i64 (n1 : Int), .string f2, .string f3] 38)) hb); have n0_ := Aside0.mk (below_step (by repeat (first | (with_reducible first | exact HB.out | apply below_alloc | apply pw_below_drewN | apply below_drew1) | exact HB.out)) hb); have n1_ := Aside0.mk (Kd.R_below (Kd.R_alloc HO.out (.cells #[.int .i64 0, .int .i64 (n1 : Int), .string f2, .string f3] 38)) hb); clear HB HO; have HB := n0_; have BK := m0_; have HO := n1_; clear n0_ m0_ n1_ hb; have hz0 : wq.cell? ⟨wr.heap.size, 0, none⟩ = some (.int .i64 0) := (blk_cell BK.out 0).trans rfl; have hz1 : wq.cell? ⟨wr.heap.size, 1, none⟩ = some (.int .i64 (n1 : Int)) := (blk_cell BK.out 1).trans rfl; have hz2 : wq.cell? ⟨wr.heap.size, 2, none⟩ = some (.string f2) := (blk_cell BK.out 2).trans rfl; have hz3 : wq.cell? ⟨wr.heap.size, 3, none⟩ = some (.string f3) := (blk_cell BK.out 3).trans rfl)
                go_ret2
                exact ⟨_, by first | rfl | (simp; done), Kd.R_nil _ _ _ _ _, (by repeat (first | (with_reducible first | exact HB.out | apply below_alloc | apply pw_below_drewN | apply below_drew1) | exact HB.out))⟩
              · rw [if_neg h2] at hM
                have h2b : ((x.length : Int) == 20) = false := beq_eq_false_iff_ne.mpr h2
                have HM' := Aside0.mk hM
                clear hM HM
                go_wp2_with (first | (go_at_call 66; (with_reducible refine (impl_isDeskEdit.calls k 0 (n1 : Int) f2 f3 true _ HT.out).mono ?_); rintro e wq ⟨rfl, hb⟩; have m0_ := Aside0.mk (blk_below (heap_alloc_new wr (.cells #[.int .i64 0, .int .i64 (n1 : Int), .string f2, .string f3] 38)) hb); have n0_ := Aside0.mk (below_step (by repeat (first | (with_reducible first | exact HB.out | apply below_alloc | apply pw_below_drewN | apply below_drew1) | exact HB.out)) hb); have n1_ := Aside0.mk (Kd.R_below (Kd.R_alloc HO.out (.cells #[.int .i64 0, .int .i64 (n1 : Int), .string f2, .string f3] 38)) hb); clear HB HO; have HB := n0_; have BK := m0_; have HO := n1_; clear n0_ m0_ n1_ hb; have hz0 : wq.cell? ⟨wr.heap.size, 0, none⟩ = some (.int .i64 0) := (blk_cell BK.out 0).trans rfl; have hz1 : wq.cell? ⟨wr.heap.size, 1, none⟩ = some (.int .i64 (n1 : Int)) := (blk_cell BK.out 1).trans rfl; have hz2 : wq.cell? ⟨wr.heap.size, 2, none⟩ = some (.string f2) := (blk_cell BK.out 2).trans rfl; have hz3 : wq.cell? ⟨wr.heap.size, 3, none⟩ = some (.string f3) := (blk_cell BK.out 3).trans rfl) | (go_at_call 100; refine (insR (W0 := w) n1 f2 _ _ (by (with_reducible repeat (first | apply Kd.R_alloc | apply Kd.R_drewN | apply Kd.R_drew)); exact HO.out) (by repeat (first | (with_reducible first | exact HB.out | apply below_alloc | apply pw_below_drewN | apply below_drew1) | exact HB.out)) (by omega) HL.out (heap_alloc_new _ _) (by have h_ := Kd.R_ne_new HO.out 0; exact h_)).mono ?_; rintro e w8 ⟨v5, rfl, ho, hb⟩; have n0_ := Aside0.mk hb; have n1_ := Aside0.mk ho; clear HB HO; have HB := n0_; have HO := n1_; clear n0_ n1_ ho hb))
                go_roundg (l1.length - (i + 1))
                case measure => have := HK.out; omega
                case rel => exact ⟨_, i + 1, by first | exact congrArg (Value.int .i64) hwi | rfl | (simp; done) | exact hwi | (simp [hwi]; done), ⟨rfl⟩, ⟨hlt⟩, HM', ⟨(by (with_reducible repeat (first | apply Kd.R_alloc | apply Kd.R_drewN | apply Kd.R_drew)); exact HO.out)⟩, ⟨(by repeat (first | (with_reducible first | exact HB.out | apply below_alloc | apply pw_below_drewN | apply below_drew1) | exact HB.out))⟩⟩
          · rw [if_neg h0] at hM
            have h0b : (f0 == 0) = false := beq_eq_false_iff_ne.mpr h0
            obtain ⟨s, hs, hN⟩ := Option.bind_eq_some_iff.mp hM
            clear hM
            have hM := hN
            clear hN
            have HS := Aside0.mk hs
            clear hs
            by_cases h1 : (s.toList != f3.toList) = true
            · rw [if_pos h1] at hM
              have h1e : (s.toList == f3.toList) = false := by simpa using h1
              have h1f : (s.toList != f3.toList) = true := h1
              have h1g : ¬ (s.toList = f3.toList) := by simpa using h1
              clear h1
              simp only [Option.some.injEq, Prod.mk.injEq] at hM
              obtain ⟨rfl, rfl⟩ := hM
              go_wp2_with (go_at_call 66; (with_reducible refine (impl_isDeskEdit.calls k f0 (n1 : Int) f2 f3 true _ HT.out).mono ?_); rintro e wq ⟨rfl, hb⟩; have m0_ := Aside0.mk (blk_below (heap_alloc_new wr (.cells #[.int .i64 f0, .int .i64 (n1 : Int), .string f2, .string f3] 38)) hb); have n0_ := Aside0.mk (below_step (by repeat (first | (with_reducible first | exact HB.out | apply below_alloc | apply pw_below_drewN | apply below_drew1) | exact HB.out)) hb); have n1_ := Aside0.mk (Kd.R_below (Kd.R_alloc HO.out (.cells #[.int .i64 f0, .int .i64 (n1 : Int), .string f2, .string f3] 38)) hb); clear HB HO; have HB := n0_; have BK := m0_; have HO := n1_; clear n0_ m0_ n1_ hb; have hz0 : wq.cell? ⟨wr.heap.size, 0, none⟩ = some (.int .i64 f0) := (blk_cell BK.out 0).trans rfl; have hz1 : wq.cell? ⟨wr.heap.size, 1, none⟩ = some (.int .i64 (n1 : Int)) := (blk_cell BK.out 1).trans rfl; have hz2 : wq.cell? ⟨wr.heap.size, 2, none⟩ = some (.string f2) := (blk_cell BK.out 2).trans rfl; have hz3 : wq.cell? ⟨wr.heap.size, 3, none⟩ = some (.string f3) := (blk_cell BK.out 3).trans rfl)
              go_region_with (go_at_call 101; (with_reducible refine (impl_itemAt.calls _ _ x (n1 : Int) s _ ?hI HCX.out HS.out).mono ?_); (case hI => exact (by obtain ⟨A_, c_, e_, h_, hC_⟩ := Kd.R_reads HO.out; injection e_ with e1_ e2_ e3_; subst e1_; repeat (first | exact hC_ | (with_reducible refine Kd.C_alloc ?_ _) | (with_reducible refine Kd.C_drewN ?_ _) | (with_reducible refine Kd.C_drew ?_)))); rintro e w8 ⟨rfl, ⟨nd, rfl⟩⟩)
              all_goals go_wp2
              all_goals
                go_ret2
                exact ⟨_, by first | rfl | (simp; done), Kd.R_nil _ _ _ _ _, (by repeat (first | (with_reducible first | exact HB.out | apply below_alloc | apply pw_below_drewN | apply below_drew1) | exact HB.out))⟩
            · rw [if_neg h1] at hM
              have h1 : (s.toList != f3.toList) = false := by simpa using h1
              have h1e : (s.toList == f3.toList) = true := by simpa using h1
              by_cases h2 : (n1 : Int) < (x.length : Int)
              · rw [if_pos h2] at hM
                have h3 : IntKind.i64.wrap ((n1 : Int) + 1) = (n1 : Int) + 1 := by have := HL.out; simp [IntKind.wrap, IntKind.bits, IntKind.signed]; omega
                by_cases h4 : f0 = 1
                · rw [if_pos h4] at hM
                  subst h4
                  have HM' := Aside0.mk hM
                  clear hM HM
                  go_wp2_with (go_at_call 66; (with_reducible refine (impl_isDeskEdit.calls k 1 (n1 : Int) f2 f3 true _ HT.out).mono ?_); rintro e wq ⟨rfl, hb⟩; have m0_ := Aside0.mk (blk_below (heap_alloc_new wr (.cells #[.int .i64 1, .int .i64 (n1 : Int), .string f2, .string f3] 38)) hb); have n0_ := Aside0.mk (below_step (by repeat (first | (with_reducible first | exact HB.out | apply below_alloc | apply pw_below_drewN | apply below_drew1) | exact HB.out)) hb); have n1_ := Aside0.mk (Kd.R_below (Kd.R_alloc HO.out (.cells #[.int .i64 1, .int .i64 (n1 : Int), .string f2, .string f3] 38)) hb); clear HB HO; have HB := n0_; have BK := m0_; have HO := n1_; clear n0_ m0_ n1_ hb; have hz0 : wq.cell? ⟨wr.heap.size, 0, none⟩ = some (.int .i64 1) := (blk_cell BK.out 0).trans rfl; have hz1 : wq.cell? ⟨wr.heap.size, 1, none⟩ = some (.int .i64 (n1 : Int)) := (blk_cell BK.out 1).trans rfl; have hz2 : wq.cell? ⟨wr.heap.size, 2, none⟩ = some (.string f2) := (blk_cell BK.out 2).trans rfl; have hz3 : wq.cell? ⟨wr.heap.size, 3, none⟩ = some (.string f3) := (blk_cell BK.out 3).trans rfl)
                  go_region_with (go_at_call 101; (with_reducible refine (impl_itemAt.calls _ _ x (n1 : Int) s _ ?hI HCX.out HS.out).mono ?_); (case hI => exact (by obtain ⟨A_, c_, e_, h_, hC_⟩ := Kd.R_reads HO.out; injection e_ with e1_ e2_ e3_; subst e1_; repeat (first | exact hC_ | (with_reducible refine Kd.C_alloc ?_ _) | (with_reducible refine Kd.C_drewN ?_ _) | (with_reducible refine Kd.C_drew ?_)))); rintro e w8 ⟨rfl, ⟨nd, rfl⟩⟩)
                  all_goals go_wp2_with (go_at_call 102; refine (delR (W0 := w) n1 (by (with_reducible repeat (first | apply Kd.R_alloc | apply Kd.R_drewN | apply Kd.R_drew)); exact HO.out) (by repeat (first | (with_reducible first | exact HB.out | apply below_alloc | apply pw_below_drewN | apply below_drew1) | exact HB.out)) (by omega)).mono ?_; rintro e w9 ⟨v5, rfl, ho, hb⟩; have n0_ := Aside0.mk hb; have n1_ := Aside0.mk ho; clear HB HO; have HB := n0_; have HO := n1_; clear n0_ n1_ ho hb)
                  all_goals
                    go_roundg (l1.length - (i + 1))
                    case measure => have := HK.out; omega
                    case rel => exact ⟨_, i + 1, by first | exact congrArg (Value.int .i64) hwi | rfl | (simp; done) | exact hwi | (simp [hwi]; done), ⟨rfl⟩, ⟨hlt⟩, HM', ⟨(by (with_reducible repeat (first | apply Kd.R_alloc | apply Kd.R_drewN | apply Kd.R_drew)); exact HO.out)⟩, ⟨(by repeat (first | (with_reducible first | exact HB.out | apply below_alloc | apply pw_below_drewN | apply below_drew1) | exact HB.out))⟩⟩
                · rw [if_neg h4] at hM
                  have h4b : (f0 == 1) = false := beq_eq_false_iff_ne.mpr h4
                  have HM' := Aside0.mk hM
                  clear hM HM
                  have h2n : n1 < x.length := by omega
                  obtain ⟨gr, cg, eg, hbg, hlg, cells, hcells⟩ := Kd.R_form HO.out (by omega)
                  injection eg with ea en ec
                  subst ea
                  subst ec
                  have GE := Aside0.mk hbg
                  clear hbg hlg hcells en
                  go_wp2_with (go_at_call 66; (with_reducible refine (impl_isDeskEdit.calls k f0 (n1 : Int) f2 f3 true _ HT.out).mono ?_); rintro e wq ⟨rfl, hb⟩; have m0_ := Aside0.mk (blk_below (heap_alloc_new wr (.cells #[.int .i64 f0, .int .i64 (n1 : Int), .string f2, .string f3] 38)) hb); have n0_ := Aside0.mk (below_step (by repeat (first | (with_reducible first | exact HB.out | apply below_alloc | apply pw_below_drewN | apply below_drew1) | exact HB.out)) hb); have n1_ := Aside0.mk (Kd.R_below (Kd.R_alloc HO.out (.cells #[.int .i64 f0, .int .i64 (n1 : Int), .string f2, .string f3] 38)) hb); clear HB HO; have HB := n0_; have BK := m0_; have HO := n1_; clear n0_ m0_ n1_ hb; have hz0 : wq.cell? ⟨wr.heap.size, 0, none⟩ = some (.int .i64 f0) := (blk_cell BK.out 0).trans rfl; have hz1 : wq.cell? ⟨wr.heap.size, 1, none⟩ = some (.int .i64 (n1 : Int)) := (blk_cell BK.out 1).trans rfl; have hz2 : wq.cell? ⟨wr.heap.size, 2, none⟩ = some (.string f2) := (blk_cell BK.out 2).trans rfl; have hz3 : wq.cell? ⟨wr.heap.size, 3, none⟩ = some (.string f3) := (blk_cell BK.out 3).trans rfl; have hs0 := (Kd.R_cell ByteArray.empty HO.out (n1 : Int) (by omega) (by omega)).1; have hs1 := (Kd.R_cell ByteArray.empty HO.out (n1 : Int) (by omega) (by omega)).2; simp only [Int.toNat_natCast] at hs0 hs1)
                  go_region_with (go_at_call 101; (with_reducible refine (impl_itemAt.calls _ _ x (n1 : Int) s _ ?hI HCX.out HS.out).mono ?_); (case hI => exact (by obtain ⟨A_, c_, e_, h_, hC_⟩ := Kd.R_reads HO.out; injection e_ with e1_ e2_ e3_; subst e1_; repeat (first | exact hC_ | (with_reducible refine Kd.C_alloc ?_ _) | (with_reducible refine Kd.C_drewN ?_ _) | (with_reducible refine Kd.C_drew ?_)))); rintro e w8 ⟨rfl, ⟨nd, rfl⟩⟩)
                  all_goals go_wp2
                  all_goals
                    go_roundg (l1.length - (i + 1))
                    case measure => have := HK.out; omega
                    case rel => exact ⟨_, i + 1, by first | exact congrArg (Value.int .i64) hwi | rfl | (simp; done) | exact hwi | (simp [hwi]; done), ⟨rfl⟩, ⟨hlt⟩, HM', ⟨(Kd.R_put (by (with_reducible repeat (first | apply Kd.R_alloc | apply Kd.R_drewN | apply Kd.R_drew)); exact HO.out) (n1 : Int) f2).1⟩, ⟨below_set (by repeat (first | (with_reducible first | exact HB.out | apply below_alloc | apply pw_below_drewN | apply below_drew1) | exact HB.out)) GE.out⟩⟩
              · rw [if_neg h2] at hM; exact absurd hM (by simp)
        · rw [if_neg hL] at hM; exact absurd hM (by simp)
    · have h3 : madeL k x (l1.drop i) = some (r1, r2) := HM.out
      rw [List.drop_eq_nil_of_le (by omega)] at h3
      simp only [madeL, Option.some.injEq, Prod.mk.injEq] at h3
      obtain ⟨rfl, rfl⟩ := h3
      go_wp2
      go_ret2
      exact ⟨_, by first | rfl | (simp; done), by (with_reducible repeat (first | apply Kd.R_alloc | apply Kd.R_drewN | apply Kd.R_drew)); exact HO.out, (by repeat (first | (with_reducible first | exact HB.out | apply below_alloc | apply pw_below_drewN | apply below_drew1) | exact HB.out))⟩

def impl_made.e (k : Nat) : Refl.Ent G := ⟨63, [(.c (.row 9 false)), (.c (.row 38 false))], .tup [(.c (.row 9 true)), (.c .bool)], fun x => impl_made.f k x.1 x.2⟩
theorem impl_made.ok (k : Nat) : Refl.EntOK Try.prog (impl_made.e k) := Refl.entOK_new Try.func63 (by kernel_rfl) (fun x y h S w vals hv => by
  cases vals with
  | nil => exact hv.elim
  | cons y0 vals =>
    cases vals with
    | nil => exact hv.2.elim
    | cons y1 vals =>
      cases vals with
      | cons _ _ => exact hv.2.2.elim
      | nil =>
        obtain ⟨A0, c0, rfl, hc0, hC0⟩ := c_of Kd.string rkStr (fun _ _ => rfl) rfl hv.1
        obtain ⟨A1, c1, rfl, hc1, hC1⟩ := c_of k38 rk38 (fun _ _ => k38_mk _ _) rfl hv.2.1
        refine (impl_made.calls k A0 c0 x.1 A1 c1 x.2 y.1 y.2 w hC0 hc0 hC1 hc1 h).mono ?_
        rintro en w' ⟨v, rfl, hR, hb⟩
        obtain ⟨μ, m1, m2, m3⟩ := Refl.newRow_rep (Γ := G) (q := 9) (S := S) (new_of Kd.string rkStr (fun _ _ _ _ _ h => h) rfl hR)
        exact ⟨μ, [.f (.c (.row 9 y.1 (.tok 0 0))), .f (.c (.v (.bool y.2)))], [v, .bool y.2], [.row 9 y.1 (.tok 0 0), .v (.bool y.2)], rfl, hb, m1, m2, ⟨m3, rfl, trivial⟩, by kernel_rfl, by kernel_rfl, by kernel_rfl⟩)

/-! ### impl_DeskEdit_57: function 57 -/

def impl_DeskEdit_57.f (l0 : List S38) : Option (List S38) := if l0.length < 2932031007402 then some l0 else none
theorem impl_DeskEdit_57.info : (Try.prog.info? 38).map (fun i => (i.zero, i.size, i.bytes)) = some (some (.agg #[(.int .i64 0), (.int .i64 0), (.string ⟨#[]⟩), (.string ⟨#[]⟩)]), 4, 48) := by kernel_rfl
set_option maxHeartbeats 4000000 in
set_option maxRecDepth 100000 in
theorem impl_DeskEdit_57.calls (A0 : Option Addr) (c0 : Nat) (l0 : List S38) (r : List S38) (w : World) (hr0 : Kd.C k38 w A0 l0.length l0) (hc0 : l0.length ≤ c0) (h : impl_DeskEdit_57.f l0 = some r) :
    Calls Try.prog 57 #[.slice A0 l0.length c0] w fun e w' => ∃ v0_ : Value, e = .returned (v0_) ∧ Kd.R k38 38 w' w.heap.size (fun _ => True) v0_ r ∧ Below w.heap.size w w' := by
  have HB := Aside0.mk (Below.refl w.heap.size w)
  have hq := fun (W : World) a n c => Lib.run_eql_slice_nil (P := Try.prog) W 25 38 a n c 0 0 Try.underlying25
  unfold impl_DeskEdit_57.f at h
  split at h
  · rename_i hl
    obtain rfl := Option.some.inj h
    cases A0 with
    | none =>
      have hz : l0 = [] := by
        rcases Nat.eq_zero_or_pos l0.length with h0 | h0
        · exact List.eq_nil_of_length_eq_zero h0
        · obtain ⟨ad, e, _⟩ := hr0.2.2 h0; cases e
      subst hz
      clear hr0 hc0 hl
      go_enter Try.func57, Try.ntmps57
      go_wp2
      go_ret
      exact ⟨_, rfl, Kd.R_nil _ _ _ _ _, HB.out⟩
    | some ad =>
      have HR0 := Aside0.mk hr0
      have LM := Aside0.mk hl
      clear hr0 hc0 hl
      go_enter Try.func57, Try.ntmps57
      go_wp2_with (first | ((with_reducible refine gate_dst (N := 5) rfl ?_); refine Kd.R_lit k38 _ 38 ?hg (N := 5) ?hd (xs := ([] : List S38)) (inner := []) (ok := fun _ => True) (okp := fun _ => True) ?hr ?hp (fun _ hk => hk) trivial (Below.refl _ _) (Nat.le_refl _) (by simp) ?_; (case hd => rfl); (case hg => rfl); (case hr => first | (go_simp; done) | (go_simp; rfl)); (case hp => exact (Reps.none _ _)); intro v1 w4 ho5 hb hg_ hnew_; clear hg_ hnew_; have n0_ := Aside0.mk (Kd.R_lower ho5 (below_size (by repeat (first | (with_reducible first | exact HB.out | apply below_alloc | apply pw_below_drewN | apply below_drew1) | exact HB.out)))); have n1_ := Aside0.mk (below_step (by repeat (first | (with_reducible first | exact HB.out | apply below_alloc | apply pw_below_drewN | apply below_drew1) | exact HB.out)) hb); clear HB; have HO := n0_; have HB := n1_; clear n0_ n1_; clear hb ho5) | ((with_reducible refine gate_builtin (b := .append) (xs := #[.tmp 5, .tmp 6]) rfl ?_); at_builtin; refine Kd.R_append_rows k38 (w0 := w) w.heap.size rfl (.tmp 5) (.tmp 6) 25 38 (.agg #[(.int .i64 0), (.int .i64 0), (.string ⟨#[]⟩), (.string ⟨#[]⟩)]) 48 rfl Try.underlying25 impl_DeskEdit_57.info rfl (by decide) (by omega) v1 [] l0 _ _ _ (fun _ => True) (fun _ => False) rfl rfl ?aO ?aR (fun _ _ h => h) (fun _ h => h.elim) ?aF ?aB ?aS ?aL ?_; (case aR => repeat (first | exact (Kd.C_below HR0.out HB.out) | (with_reducible refine Kd.C_alloc ?_ _) | (with_reducible refine Kd.C_drewN ?_ _) | (with_reducible refine Kd.C_drew ?_))); (case aB => exact (by repeat (first | (with_reducible first | exact HB.out | apply below_alloc | apply pw_below_drewN | apply below_drew1) | exact HB.out))); (case aF => exact (fun _ _ => trivial)); (case aO => exact (by (with_reducible repeat (first | apply Kd.R_alloc | apply Kd.R_drewN | apply Kd.R_drew)); exact HO.out)); (case aS => exact (below_size (by repeat (first | (with_reducible first | exact HB.out | apply below_alloc | apply pw_below_drewN | apply below_drew1) | exact HB.out)))); (case aL => have := LM.out; simp; omega); intro v2 w6 ho hb hg hat; have n0_ := Aside0.mk (hb); have n1_ := Aside0.mk (ho); clear HB; clear HO; have HB := n0_; have HO := n1_; clear n0_ n1_; clear ho hb hg hat))
      go_ret
      exact ⟨_, rfl, by (with_reducible repeat (first | apply Kd.R_alloc | apply Kd.R_drewN | apply Kd.R_drew)); exact HO.out, (by repeat (first | (with_reducible first | exact HB.out | apply below_alloc | apply pw_below_drewN | apply below_drew1) | exact HB.out))⟩
  · cases h

def impl_DeskEdit_57.e (k : Nat) : Refl.Ent G := ⟨57, [(.c (.row 38 false))], .one (.c (.row 38 true)), fun x => impl_DeskEdit_57.f x⟩
theorem impl_DeskEdit_57.ok (k : Nat) : Refl.EntOK Try.prog (impl_DeskEdit_57.e k) := Refl.entOK_new Try.func57 (by kernel_rfl) (fun x y h S w vals hv => by
  cases vals with
  | nil => exact hv.elim
  | cons y0 vals =>
    cases vals with
    | cons _ _ => exact hv.2.elim
    | nil =>
      obtain ⟨A, c, rfl, hc, hC⟩ := c_of k38 rk38 (fun _ _ => k38_mk _ _) rfl hv.1
      refine (impl_DeskEdit_57.calls A c x y w hC hc h).mono ?_
      rintro en w' ⟨v, rfl, hR, hb⟩
      obtain ⟨μ, m1, m2, m3⟩ := Refl.newRow_rep (Γ := G) (q := 38) (S := S) (new_of k38 rk38 (fun _ _ _ _ _ h => k38_openM h) rfl hR)
      exact ⟨μ, [.f (.c (.row 38 y (.tok 0 0)))], [v], [.row 38 y (.tok 0 0)], rfl, hb, m1, m2, ⟨m3, trivial⟩, by kernel_rfl, by kernel_rfl, by kernel_rfl⟩)

/-! ### impl_DeskEdit_103: function 103 -/

-- JOINS l0=None | BOXES 
def impl_DeskEdit_103.l0 : Nat → List (S38) → Int → Int → Option ((List (S38)))
  | 0, _, _, _ => none
  | k + 1, x0, x2, x3 => if x2 < x3 then (if 0 ≤ x3 then (if x3 < (x0.length : Int) then (if 0 ≤ x2 then (if x2 < (x0.length : Int) then (if 0 ≤ x2 then (if x2 < (x0.length : Int) then (if 0 ≤ x3 then (if x3 < (x0.length : Int) then (impl_DeskEdit_103.l0 k ((x0.set (x2 : Int).toNat (⟨(rd_T38 x0 x3).f0, (rd_T38 x0 x3).f1, (rd_T38 x0 x3).f2, (rd_T38 x0 x3).f3⟩ : S38)).set (x3 : Int).toNat (⟨(rd_T38 x0 x2).f0, (rd_T38 x0 x2).f1, (rd_T38 x0 x2).f2, (rd_T38 x0 x2).f3⟩ : S38)) (wrap64 (x2 + 1)) (wrap64 (x3 - 1))) else (none)) else (none)) else (none)) else (none)) else (none)) else (none)) else (none)) else (none)) else (some x0)
def impl_DeskEdit_103.f (k : Nat) (l0 : List (S38)) : Option ((List (S38))) := impl_DeskEdit_103.l0 k l0 0 (wrap64 ((l0.length : Int) - 1))
theorem impl_DeskEdit_103.mono_l : ∀ k, (∀ y0 y1 y2, LeO (impl_DeskEdit_103.l0 k y0 y1 y2) (impl_DeskEdit_103.l0 (k + 1) y0 y1 y2))
  | 0 => fun _ _ _ r h => by simp [impl_DeskEdit_103.l0] at h
  | k + 1 => by
    have ih0 := impl_DeskEdit_103.mono_l k
    · intro y0 y1 y2
      unfold impl_DeskEdit_103.l0
      repeat' first
      | (with_reducible exact ih0 _ _ _)
      | (with_reducible exact LeO.refl _)
      | (with_reducible exact LeO.none _)
      | (with_reducible refine LeO.ite ?_ ?_)
      | (with_reducible refine LeO.bind ?_ (fun _ => ?_))
      | exact ih0 _ _ _
      | exact LeO.none _
      | refine LeO.ite ?_ ?_
      | refine LeO.bind ?_ (fun _ => ?_)
theorem impl_DeskEdit_103.mono : ∀ a0 k, LeO (impl_DeskEdit_103.f k a0) (impl_DeskEdit_103.f (k + 1) a0) := by
  intro a0 k
  have ih0 := impl_DeskEdit_103.mono_l k
  unfold impl_DeskEdit_103.f
  repeat' first
      | (with_reducible exact ih0 _ _ _)
      | (with_reducible exact LeO.refl _)
      | (with_reducible exact LeO.none _)
      | (with_reducible refine LeO.ite ?_ ?_)
      | (with_reducible refine LeO.bind ?_ (fun _ => ?_))
      | exact ih0 _ _ _
      | exact LeO.none _
      | refine LeO.ite ?_ ?_
      | refine LeO.bind ?_ (fun _ => ?_)
def impl_DeskEdit_103.T3 : Bool × List (List Nat × List Nat) := (true, [([], []), ([], []), ([], []), ([], []), ([], []), ([], []), ([4, 5], [4, 5]), ([6], [6]), ([], []), ([], []), ([8, 9], [8, 9]), ([10], [10]), ([0, 1, 0, 1, 4, 5, 6, 7, 11], [0, 1]), ([12, 7, 0, 1, 4, 5, 6, 7, 11], [7, 12]), ([2, 3, 0, 1, 2, 3, 4, 5, 6, 7, 8, 9, 10, 11, 12, 13], [2, 3]), ([14, 11, 13, 0, 1, 2, 3, 4, 5, 6, 7, 8, 9, 10, 11, 12, 13], [11, 14])])
def impl_DeskEdit_103.B3 : List Nat := [0, 0, 0, 0, 0, 0, 48, 112, 0, 0, 768, 1792, 4083, 8179, 16383, 32767]
theorem impl_DeskEdit_103.tab3 : rtab .any (opsOf Try.f103 3) = impl_DeskEdit_103.T3 := by kernel_rfl
theorem impl_DeskEdit_103.bits3 : waitsOk impl_DeskEdit_103.T3.2 impl_DeskEdit_103.B3 = true := by kernel_rfl
set_option maxHeartbeats 8000000 in
set_option maxRecDepth 100000 in
theorem impl_DeskEdit_103.calls (k : Nat) (P0_ : Nat → Prop) (u9000_ : Value) (l0 : List (S38)) (r : List (S38)) (w0 w : World) (hB : Below w0.heap.size w0 w) (ho0 : Kd.R k38 38 w w0.heap.size P0_ u9000_ l0) (h : impl_DeskEdit_103.f k l0 = some r) :
    Calls Try.prog 103 #[u9000_] w fun e w' => e = .returned (.tuple #[]) ∧ Kd.R k38 38 w' w0.heap.size (fun k_ => (P0_ k_ ∨ w.heap.size ≤ k_)) u9000_ r ∧ Below w0.heap.size w0 w' ∧ Kept w w' (fun k_ => P0_ k_) := by
  have hu38 := Try.underlying38
  have HO0 := Aside0.mk (show Kd.R k38 38 w w0.heap.size (fun k_ => (P0_ k_ ∨ w.heap.size ≤ k_)) u9000_ l0 from Kd.R_mono ho0 (fun k_ hk => (.inl hk)))
  have HK := Aside0.mk (Kept.refl w (fun k_ => P0_ k_))
  have HW0 := Aside0.mk hB.size
  have HB := Aside0.mk hB
  clear hB
  have H : (impl_DeskEdit_103.l0 k l0 0 (wrap64 ((l0.length : Int) - 1))) = some r := h
  clear h
  have H' := Aside0.mk H
  clear H
  obtain ⟨Ao2, co2, eo2⟩ := Kd.R_slice HO0.out
  subst eo2
  go_enter Try.func103, Try.ntmps103
  go_wp2
  go_loopg [2, 3] k (fun kq v2 v3 w' => ∃ (x0_1 : List (S38)) (x2_1 : Int) (x3_1 : Int), v2 = .int .i64 x2_1 ∧ v3 = .int .i64 x3_1 ∧ Aside0 (impl_DeskEdit_103.l0 kq x0_1 x2_1 x3_1 = some r) ∧ Aside0 (kq ≤ k) ∧ Aside0 (Kd.R k38 38 w' w0.heap.size (fun k_ => (P0_ k_ ∨ w.heap.size ≤ k_)) (.slice Ao2 l0.length co2) x0_1) ∧ Aside0 (Kept w w' (fun k_ => P0_ k_)) ∧ Aside0 (Below w0.heap.size w0 w'))
  case atStart => exact ⟨(l0), (0), (wrap64 ((l0.length : Int) - 1)), (by first | rfl | (simp; done) | (simp [*]; done)), (by first | rfl | (simp; done) | (simp [*]; done)), H', ⟨Nat.le_refl _⟩, ⟨by (with_reducible repeat (first | apply Kd.R_alloc | apply Kd.R_drewN | apply Kd.R_drew)); exact HO0.out⟩, ⟨by repeat (first | (with_reducible first | exact HK.out | apply Kept.alloc | apply Kept.drewN | apply Kept.drew) | exact HK.out)⟩, ⟨by repeat (first | (with_reducible first | exact HB.out | apply below_alloc | apply pw_below_drewN | apply below_drew1) | exact HB.out)⟩⟩
  case round =>
    clear H'
    try clear c1
    try clear p2
    obtain ⟨x0_1, x2_1, x3_1, rfl, rfl, HA, HK1, HO_0, HK, HB⟩ := hrel
    have hl0_1 := (Kd.R_reads' HO_0.out).1
    rw [hl0_1] at HO_0
    (try simp only [hl0_1])
    cases gk with
    | zero => exact absurd HA.out (by simp [impl_DeskEdit_103.l0])
    | succ k1 =>
      have H := HA.out
      clear HA
      simp only [impl_DeskEdit_103.l0] at H
      by_cases c3 : x2_1 < x3_1
      · rw [if_pos c3] at H
        have c3b0 : decide (x2_1 < x3_1) = true := decide_eq_true c3
        clear c3
        by_cases c4 : 0 ≤ x3_1
        · rw [if_pos c4] at H
          have c4b0 : decide (0 ≤ x3_1) = true := decide_eq_true c4
          clear c4
          by_cases c5 : x3_1 < (x0_1.length : Int)
          · rw [if_pos c5] at H
            have c5b0 : decide (x3_1 < (x0_1.length : Int)) = true := decide_eq_true c5
            clear c5
            by_cases c6 : 0 ≤ x2_1
            · rw [if_pos c6] at H
              have c6b0 : decide (0 ≤ x2_1) = true := decide_eq_true c6
              clear c6
              by_cases c7 : x2_1 < (x0_1.length : Int)
              · rw [if_pos c7] at H
                have c7b0 : decide (x2_1 < (x0_1.length : Int)) = true := decide_eq_true c7
                clear c7
                by_cases c8 : 0 ≤ x2_1
                · rw [if_pos c8] at H
                  have c8b0 : decide (0 ≤ x2_1) = true := decide_eq_true c8
                  clear c8
                  by_cases c9 : x2_1 < (x0_1.length : Int)
                  · rw [if_pos c9] at H
                    have c9b0 : decide (x2_1 < (x0_1.length : Int)) = true := decide_eq_true c9
                    clear c9
                    obtain ⟨y659, hy659⟩ : ∃ y_ : List (S38), y_ = (x0_1.set (x2_1 : Int).toNat (⟨(rd_T38 x0_1 x3_1).f0, (rd_T38 x0_1 x3_1).f1, (rd_T38 x0_1 x3_1).f2, (rd_T38 x0_1 x3_1).f3⟩ : S38)) := ⟨_, rfl⟩
                    replace H : (if 0 ≤ x3_1 then (if x3_1 < (x0_1.length : Int) then (impl_DeskEdit_103.l0 k1 (y659.set (x3_1 : Int).toNat (⟨(rd_T38 x0_1 x2_1).f0, (rd_T38 x0_1 x2_1).f1, (rd_T38 x0_1 x2_1).f2, (rd_T38 x0_1 x2_1).f3⟩ : S38)) (wrap64 (x2_1 + 1)) (wrap64 (x3_1 - 1))) else (none)) else (none)) = some r := by first | (rw [hy659]; with_reducible exact H) | (have H2_ := (Option.bind_some _ _).symm.trans H; rw [hy659]; with_reducible exact H2_) | (have H2_ := (Option.bind_some _ _).symm.trans H; with_reducible exact H2_) | with_reducible exact H | (rw [hy659]; exact H) | exact H
                    have Ny659 := Aside0.mk hy659
                    clear hy659
                    by_cases c11 : 0 ≤ x3_1
                    · rw [if_pos c11] at H
                      have c11b0 : decide (0 ≤ x3_1) = true := decide_eq_true c11
                      clear c11
                      by_cases c12 : x3_1 < (x0_1.length : Int)
                      · rw [if_pos c12] at H
                        have c12b0 : decide (x3_1 < (x0_1.length : Int)) = true := decide_eq_true c12
                        clear c12
                        obtain ⟨y660, hy660⟩ : ∃ y_ : List (S38), y_ = (y659.set (x3_1 : Int).toNat (⟨(rd_T38 x0_1 x2_1).f0, (rd_T38 x0_1 x2_1).f1, (rd_T38 x0_1 x2_1).f2, (rd_T38 x0_1 x2_1).f3⟩ : S38)) := ⟨_, rfl⟩
                        replace H : (impl_DeskEdit_103.l0 k1 y660 (wrap64 (x2_1 + 1)) (wrap64 (x3_1 - 1))) = some r := by first | (rw [hy660]; with_reducible exact H) | (have H2_ := (Option.bind_some _ _).symm.trans H; rw [hy660]; with_reducible exact H2_) | (have H2_ := (Option.bind_some _ _).symm.trans H; with_reducible exact H2_) | with_reducible exact H | (rw [hy660]; exact H) | exact H
                        have Ny660 := Aside0.mk hy660
                        clear hy660
                        have H' := Aside0.mk H
                        clear H
                        try go_wp2
                        have n0_ := Aside0.mk (Kd.R_drew HO_0.out)
                        have n1_ := Aside0.mk (Kept.drew HK.out)
                        have n2_ := Aside0.mk (below_drew1 HB.out)
                        clear HO_0
                        clear HK
                        clear HB
                        have HO_0 := n0_
                        have HK := n1_
                        have HB := n2_
                        clear n0_ n1_ n2_
                        have p657 : 0 ≤ (x3_1 : Int) := of_decide_eq_true (by first | (with_reducible assumption) | assumption)
                        have q657 : x3_1 < (x0_1.length : Int) := of_decide_eq_true (by first | (with_reducible assumption) | assumption)
                        obtain ⟨ad657, e657, hx657_0, hx657_1, hx657_2, hx657_3⟩ := at_T38 (Kd.R_reads' HO_0.out).2.2 x3_1 p657 q657
                        cases e657
                        replace p657 := eq_true p657
                        replace q657 := eq_true q657
                        have p658 : 0 ≤ (x2_1 : Int) := of_decide_eq_true (by first | (with_reducible assumption) | assumption)
                        have q658 : x2_1 < (x0_1.length : Int) := of_decide_eq_true (by first | (with_reducible assumption) | assumption)
                        obtain ⟨ad658, e658, hx658_0, hx658_1, hx658_2, hx658_3⟩ := at_T38 (Kd.R_reads' HO_0.out).2.2 x2_1 p658 q658
                        obtain rfl : ad657 = ad658 := (by injection e658)
                        replace p658 := eq_true p658
                        replace q658 := eq_true q658
                        have p10 : 0 ≤ (x2_1 : Int) := of_decide_eq_true (by first | (with_reducible assumption) | assumption)
                        have q10 : (x2_1 : Int) < ((x0_1.length : Int) : Int) := of_decide_eq_true (by first | (with_reducible assumption) | assumption)
                        obtain ⟨go10, co10, eo10, gb10, gl10, cl10, HG10⟩ := Kd.R_form HO_0.out (by omega)
                        (first | cases eo10 | (injection eo10 with ea_ en_ ec_; (first | subst ea_ | (injection ea_ with ea_; subst ea_)); subst ec_; clear en_))
                        have GB10 := Aside0.mk gb10
                        have GG10 := Aside0.mk HG10
                        clear gb10 gl10 HG10
                        have HMgo10 := Aside0.mk (show (P0_ go10 ∨ w.heap.size ≤ go10) from (HO_0.out.1 _ rfl))
                        (first | simp only [add_plain] at hx657_0 | skip)
                        (first | simp only [add_plain] at hx657_1 | skip)
                        (first | simp only [add_plain] at hx657_2 | skip)
                        (first | simp only [add_plain] at hx657_3 | skip)
                        (first | simp only [add_plain] at hx658_0 | skip)
                        (first | simp only [add_plain] at hx658_1 | skip)
                        (first | simp only [add_plain] at hx658_2 | skip)
                        (first | simp only [add_plain] at hx658_3 | skip)
                        obtain ⟨ce10, hcl10, hM10, hcc10, hfr10⟩ := Kd.R_elem HO_0.out z38 (x2_1 : Int) p10 q10
                        obtain rfl := k38_openM hM10
                        have hx10_0 : World.cell? _ ⟨go10, (x2_1 : Int).toNat * 4, none⟩ = some (.int .i64 ((rd_T38 x0_1 x2_1).f0)) := hcc10 0 _ rfl
                        have hx10_1 : World.cell? _ ⟨go10, (x2_1 : Int).toNat * 4 + 1, none⟩ = some (.int .i64 ((rd_T38 x0_1 x2_1).f1)) := hcc10 1 _ rfl
                        have hx10_2 : World.cell? _ ⟨go10, (x2_1 : Int).toNat * 4 + 2, none⟩ = some (.string ((rd_T38 x0_1 x2_1).f2)) := hcc10 2 _ rfl
                        have hx10_3 : World.cell? _ ⟨go10, (x2_1 : Int).toNat * 4 + 3, none⟩ = some (.string ((rd_T38 x0_1 x2_1).f3)) := hcc10 3 _ rfl
                        have hf10_0 : World.frozen? _ ⟨go10, (x2_1 : Int).toNat * 4, none⟩ = false := hfr10 0
                        have hf10_1 : World.frozen? _ ⟨go10, (x2_1 : Int).toNat * 4 + 1, none⟩ = false := hfr10 1
                        have hf10_2 : World.frozen? _ ⟨go10, (x2_1 : Int).toNat * 4 + 2, none⟩ = false := hfr10 2
                        have hf10_3 : World.frozen? _ ⟨go10, (x2_1 : Int).toNat * 4 + 3, none⟩ = false := hfr10 3
                        clear hcl10 hcc10 hfr10 hM10
                        replace p10 := eq_true p10
                        replace q10 := eq_true q10
                        obtain ⟨ce15, hcl15, hM15, hcc15, hfr15⟩ := Kd.R_elem HO_0.out z38 (x2_1 : Int) (of_decide_eq_true (by first | (with_reducible assumption) | assumption)) (by have h_ : (x2_1 : Int) < ((x0_1.length : Int) : Int) := of_decide_eq_true (by first | (with_reducible assumption) | assumption); first | exact h_ | (have e_ := (Kd.R_reads' HO_0.out).1; omega) | simpa using h_)
                        obtain rfl := k38_openM hM15
                        have HP15 := (Kd.R_seg HO_0.out (x2_1 : Int) (of_decide_eq_true (by first | (with_reducible assumption) | assumption)) (by have h_ : (x2_1 : Int) < ((x0_1.length : Int) : Int) := of_decide_eq_true (by first | (with_reducible assumption) | assumption); first | exact h_ | (have e_ := (Kd.R_reads' HO_0.out).1; omega) | simpa using h_) (seg := [.int .i64 ((rd_T38 x0_1 x3_1).f0), .int .i64 ((rd_T38 x0_1 x3_1).f1), .string ((rd_T38 x0_1 x3_1).f2), .string ((rd_T38 x0_1 x3_1).f3)]) (j := 0) hcl15 hcc15 (show 4 ≤ 4 from by decide) (x' := (⟨(rd_T38 x0_1 x3_1).f0, (rd_T38 x0_1 x3_1).f1, (rd_T38 x0_1 x3_1).f2, (rd_T38 x0_1 x3_1).f3⟩ : S38)) (k38_mkM _ _ _ (⟨(rd_T38 x0_1 x3_1).f0, (rd_T38 x0_1 x3_1).f1, (rd_T38 x0_1 x3_1).f2, (rd_T38 x0_1 x3_1).f3⟩ : S38) ) (fun _ hk => hk)).1
                        rw [← Ny659.out] at HP15
                        have HQ15 := Aside0.mk HP15
                        clear hcl15 hcc15 hfr15 hM15 HP15
                        have p13 : 0 ≤ (x3_1 : Int) := of_decide_eq_true (by first | (with_reducible assumption) | assumption)
                        have q13 : (x3_1 : Int) < ((x0_1.length : Int) : Int) := of_decide_eq_true (by first | (with_reducible assumption) | assumption)
                        obtain ⟨ce13, hcl13, hM13, hcc13, hfr13⟩ := Kd.R_elem HQ15.out z38 (x3_1 : Int) p13 q13
                        obtain rfl := k38_openM hM13
                        have hx13_0 : World.cell? _ ⟨go10, (x3_1 : Int).toNat * 4, none⟩ = some (.int .i64 ((rd_T38 y659 x3_1).f0)) := hcc13 0 _ rfl
                        have hx13_1 : World.cell? _ ⟨go10, (x3_1 : Int).toNat * 4 + 1, none⟩ = some (.int .i64 ((rd_T38 y659 x3_1).f1)) := hcc13 1 _ rfl
                        have hx13_2 : World.cell? _ ⟨go10, (x3_1 : Int).toNat * 4 + 2, none⟩ = some (.string ((rd_T38 y659 x3_1).f2)) := hcc13 2 _ rfl
                        have hx13_3 : World.cell? _ ⟨go10, (x3_1 : Int).toNat * 4 + 3, none⟩ = some (.string ((rd_T38 y659 x3_1).f3)) := hcc13 3 _ rfl
                        have hf13_0 : World.frozen? _ ⟨go10, (x3_1 : Int).toNat * 4, none⟩ = false := hfr13 0
                        have hf13_1 : World.frozen? _ ⟨go10, (x3_1 : Int).toNat * 4 + 1, none⟩ = false := hfr13 1
                        have hf13_2 : World.frozen? _ ⟨go10, (x3_1 : Int).toNat * 4 + 2, none⟩ = false := hfr13 2
                        have hf13_3 : World.frozen? _ ⟨go10, (x3_1 : Int).toNat * 4 + 3, none⟩ = false := hfr13 3
                        clear hcl13 hcc13 hfr13 hM13
                        replace p13 := eq_true p13
                        replace q13 := eq_true q13
                        obtain ⟨ce16, hcl16, hM16, hcc16, hfr16⟩ := Kd.R_elem HQ15.out z38 (x3_1 : Int) (of_decide_eq_true (by first | (with_reducible assumption) | assumption)) (by have h_ : (x3_1 : Int) < ((x0_1.length : Int) : Int) := of_decide_eq_true (by first | (with_reducible assumption) | assumption); first | exact h_ | (have e_ := (Kd.R_reads' HO_0.out).1; omega) | simpa using h_)
                        obtain rfl := k38_openM hM16
                        have HP16 := (Kd.R_seg HQ15.out (x3_1 : Int) (of_decide_eq_true (by first | (with_reducible assumption) | assumption)) (by have h_ : (x3_1 : Int) < ((x0_1.length : Int) : Int) := of_decide_eq_true (by first | (with_reducible assumption) | assumption); first | exact h_ | (have e_ := (Kd.R_reads' HO_0.out).1; omega) | simpa using h_) (seg := [.int .i64 ((rd_T38 x0_1 x2_1).f0), .int .i64 ((rd_T38 x0_1 x2_1).f1), .string ((rd_T38 x0_1 x2_1).f2), .string ((rd_T38 x0_1 x2_1).f3)]) (j := 0) hcl16 hcc16 (show 4 ≤ 4 from by decide) (x' := (⟨(rd_T38 x0_1 x2_1).f0, (rd_T38 x0_1 x2_1).f1, (rd_T38 x0_1 x2_1).f2, (rd_T38 x0_1 x2_1).f3⟩ : S38)) (k38_mkM _ _ _ (⟨(rd_T38 x0_1 x2_1).f0, (rd_T38 x0_1 x2_1).f1, (rd_T38 x0_1 x2_1).f2, (rd_T38 x0_1 x2_1).f3⟩ : S38) ) (fun _ hk => hk)).1
                        rw [← Ny660.out] at HP16
                        have HQ16 := Aside0.mk HP16
                        clear hcl16 hcc16 hfr16 hM16 HP16
                        refine start_ (n := 16) (S := fun w' => w'.cell? ⟨go10, ((x3_1).toNat * 4), none⟩ = some (.int .i64 ((rd_T38 x0_1 x3_1).f0)) ∧ w'.cell? ⟨go10, ((x3_1).toNat * 4) + 1, none⟩ = some (.int .i64 ((rd_T38 x0_1 x3_1).f1)) ∧ w'.cell? ⟨go10, ((x3_1).toNat * 4) + 2, none⟩ = some (.string ((rd_T38 x0_1 x3_1).f2)) ∧ w'.cell? ⟨go10, ((x3_1).toNat * 4) + 3, none⟩ = some (.string ((rd_T38 x0_1 x3_1).f3)) ∧ w'.cell? ⟨go10, ((x2_1).toNat * 4), none⟩ = some (.int .i64 ((rd_T38 x0_1 x2_1).f0)) ∧ w'.cell? ⟨go10, ((x2_1).toNat * 4) + 1, none⟩ = some (.int .i64 ((rd_T38 x0_1 x2_1).f1)) ∧ w'.cell? ⟨go10, ((x2_1).toNat * 4) + 2, none⟩ = some (.string ((rd_T38 x0_1 x2_1).f2)) ∧ w'.cell? ⟨go10, ((x2_1).toNat * 4) + 3, none⟩ = some (.string ((rd_T38 x0_1 x2_1).f3))) (ds := [13, 15]) #[false, false, false, false, false, false, false, false, false, false, false, false, false, false, false, false] (by kernel_rfl) rfl rfl ⟨hx657_0, hx657_1, hx657_2, hx657_3, hx658_0, hx658_1, hx658_2, hx658_3⟩ (fun hHeld => ?_); refine with_tabW impl_DeskEdit_103.tab3 impl_DeskEdit_103.bits3 (fun HT_ HW_ => ?_)
                        generalize wr.drew = w14 at HO_0 HK HB GG10 HQ15 HQ16 hf10_0 hf10_1 hf10_2 hf10_3 hf13_0 hf13_1 hf13_2 hf13_3 hx10_0 hx10_1 hx10_2 hx10_3 hx13_0 hx13_1 hx13_2 hx13_3 hx657_0 hx657_1 hx657_2 hx657_3 hx658_0 hx658_1 hx658_2 hx658_3 hHeld ⊢
                        refine pure_ (i := 0) (N := some 14) (v := ?_) (a' := ?_) #[true, false, false, false, false, false, false, false, false, false, false, false, false, false, false, false] rfl rfl (any_of HT_.out (by kernel_rfl)) (fun _ _ _ h => h) (Or.inl ⟨by rfl, ?_⟩) ?_ ?_
                        rotate_left
                        · intro w'
                          go_simp
                          with_reducible rfl
                        rotate_left
                        · simp only [Act.put, List.setIfInBounds_toArray, List.set_cons_zero, List.set_cons_succ, i64_w, i32_w]
                          rfl
                        refine pure_ (i := 1) (N := some 15) (v := ?_) (a' := ?_) #[true, true, false, false, false, false, false, false, false, false, false, false, false, false, false, false] rfl rfl (any_of HT_.out (by kernel_rfl)) (fun _ _ _ h => h) (Or.inl ⟨by rfl, ?_⟩) ?_ ?_
                        rotate_left
                        · intro w'
                          go_simp
                          with_reducible rfl
                        rotate_left
                        · simp only [Act.put, List.setIfInBounds_toArray, List.set_cons_zero, List.set_cons_succ, i64_w, i32_w]
                          rfl
                        refine pure_ (i := 2) (N := some 16) (v := ?_) (a' := ?_) #[true, true, true, false, false, false, false, false, false, false, false, false, false, false, false, false] rfl rfl (any_of HT_.out (by kernel_rfl)) (fun _ _ _ h => h) (Or.inl ⟨by rfl, ?_⟩) ?_ ?_
                        rotate_left
                        · intro w'
                          go_simp
                          with_reducible rfl
                        rotate_left
                        · simp only [Act.put, List.setIfInBounds_toArray, List.set_cons_zero, List.set_cons_succ, i64_w, i32_w]
                          rfl
                        refine pure_ (i := 3) (N := some 17) (v := ?_) (a' := ?_) #[true, true, true, true, false, false, false, false, false, false, false, false, false, false, false, false] rfl rfl (any_of HT_.out (by kernel_rfl)) (fun _ _ _ h => h) (Or.inl ⟨by rfl, ?_⟩) ?_ ?_
                        rotate_left
                        · intro w'
                          go_simp
                          with_reducible rfl
                        rotate_left
                        · simp only [Act.put, List.setIfInBounds_toArray, List.set_cons_zero, List.set_cons_succ, i64_w, i32_w]
                          rfl
                        refine pure_ (i := 4) (N := some 18) (v := ?_) (a' := ?_) #[true, true, true, true, true, false, false, false, false, false, false, false, false, false, false, false] rfl rfl (any_of HT_.out (by kernel_rfl)) (fun _ _ _ h => h) (Or.inl ⟨by rfl, ?_⟩) ?_ ?_
                        rotate_left
                        · intro w'
                          go_simp
                          with_reducible rfl
                        rotate_left
                        · simp only [Act.put, List.setIfInBounds_toArray, List.set_cons_zero, List.set_cons_succ, i64_w, i32_w]
                          rfl
                        refine pure_ (i := 5) (N := some 19) (v := ?_) (a' := ?_) #[true, true, true, true, true, true, false, false, false, false, false, false, false, false, false, false] rfl rfl (any_of HT_.out (by kernel_rfl)) (fun _ _ _ h => h) (Or.inl ⟨by rfl, ?_⟩) ?_ ?_
                        rotate_left
                        · intro w'
                          go_simp
                          with_reducible rfl
                        rotate_left
                        · simp only [Act.put, List.setIfInBounds_toArray, List.set_cons_zero, List.set_cons_succ, i64_w, i32_w]
                          rfl
                        refine pure_ (i := 6) (N := some 20) (v := ?_) (a' := ?_) #[true, true, true, true, true, true, true, false, false, false, false, false, false, false, false, false] rfl rfl (any_of HT_.out (by kernel_rfl)) (fun _ _ _ h => h) (Or.inl ⟨by rfl, ?_⟩) ?_ ?_
                        rotate_left
                        · intro w'
                          go_simp
                          with_reducible rfl
                        rotate_left
                        · simp only [Act.put, List.setIfInBounds_toArray, List.set_cons_zero, List.set_cons_succ, i64_w, i32_w]
                          rfl
                        refine pure_ (i := 8) (N := some 22) (v := ?_) (a' := ?_) #[true, true, true, true, true, true, true, false, true, false, false, false, false, false, false, false] rfl rfl (any_of HT_.out (by kernel_rfl)) (fun _ _ _ h => h) (Or.inl ⟨by rfl, ?_⟩) ?_ ?_
                        rotate_left
                        · intro w'
                          go_simp
                          with_reducible rfl
                        rotate_left
                        · simp only [Act.put, List.setIfInBounds_toArray, List.set_cons_zero, List.set_cons_succ, i64_w, i32_w]
                          rfl
                        refine pure_ (i := 9) (N := some 23) (v := ?_) (a' := ?_) #[true, true, true, true, true, true, true, false, true, true, false, false, false, false, false, false] rfl rfl (any_of HT_.out (by kernel_rfl)) (fun _ _ _ h => h) (Or.inl ⟨by rfl, ?_⟩) ?_ ?_
                        rotate_left
                        · intro w'
                          go_simp
                          with_reducible rfl
                        rotate_left
                        · simp only [Act.put, List.setIfInBounds_toArray, List.set_cons_zero, List.set_cons_succ, i64_w, i32_w]
                          rfl
                        refine pure_ (i := 10) (N := some 24) (v := ?_) (a' := ?_) #[true, true, true, true, true, true, true, false, true, true, true, false, false, false, false, false] rfl rfl (any_of HT_.out (by kernel_rfl)) (fun _ _ _ h => h) (Or.inl ⟨by rfl, ?_⟩) ?_ ?_
                        rotate_left
                        · intro w'
                          go_simp
                          with_reducible rfl
                        rotate_left
                        · simp only [Act.put, List.setIfInBounds_toArray, List.set_cons_zero, List.set_cons_succ, i64_w, i32_w]
                          rfl
                        refine take_ (i := 7) (N := some 21) (v := ?_) (a' := ?_) #[true, true, true, true, true, true, true, true, true, true, true, false, false, false, false, false] rfl rfl (take_ofW HT_.out HW_.out (by kernel_rfl)) (fun _ _ _ h => h) (Or.inl ⟨by rfl, ?_⟩) hHeld ?_ ?_
                        rotate_left
                        · rintro w' ⟨s0, s1, s2, s3, s4, s5, s6, s7⟩
                          go_simp
                          with_reducible rfl
                        rotate_left
                        · simp only [Act.put, List.setIfInBounds_toArray, List.set_cons_zero, List.set_cons_succ, i64_w, i32_w]
                          rfl
                        refine take_ (i := 11) (N := some 25) (v := ?_) (a' := ?_) #[true, true, true, true, true, true, true, true, true, true, true, true, false, false, false, false] rfl rfl (take_ofW HT_.out HW_.out (by kernel_rfl)) (fun _ _ _ h => h) (Or.inl ⟨by rfl, ?_⟩) hHeld ?_ ?_
                        rotate_left
                        · rintro w' ⟨s0, s1, s2, s3, s4, s5, s6, s7⟩
                          go_simp
                          with_reducible rfl
                        rotate_left
                        · simp only [Act.put, List.setIfInBounds_toArray, List.set_cons_zero, List.set_cons_succ, i64_w, i32_w]
                          rfl
                        refine pure_ (i := 12) (N := some 26) (v := ?_) (a' := ?_) #[true, true, true, true, true, true, true, true, true, true, true, true, true, false, false, false] rfl rfl (any_of HT_.out (by kernel_rfl)) (fun _ _ _ h => h) (Or.inl ⟨by rfl, ?_⟩) ?_ ?_
                        rotate_left
                        · intro w'
                          go_simp
                          with_reducible rfl
                        rotate_left
                        · simp only [Act.put, List.setIfInBounds_toArray, List.set_cons_zero, List.set_cons_succ, i64_w, i32_w]
                          rfl
                        refine last_ (i := 13) (N := none) #[true, true, true, true, true, true, true, true, true, true, true, true, true, true, false, false] rfl rfl (one_of HT_.out (by kernel_rfl)) (by decide) (fun K hK => ?_)
                        refine skip_ (w1 := ?_) (by rfl) rfl ?_ ?_
                        rotate_left
                        · go_simp
                          rfl
                        refine hK.out _ _ ?_
                        clear hK K
                        refine pure_ (i := 14) (N := some 27) (v := ?_) (a' := ?_) #[true, true, true, true, true, true, true, true, true, true, true, true, true, true, true, false] rfl rfl (any_of HT_.out (by kernel_rfl)) (fun _ _ _ h => h) (Or.inl ⟨by rfl, ?_⟩) ?_ ?_
                        rotate_left
                        · intro w'
                          go_simp
                          with_reducible rfl
                        rotate_left
                        · simp only [Act.put, List.setIfInBounds_toArray, List.set_cons_zero, List.set_cons_succ, i64_w, i32_w]
                          rfl
                        have hlt_ : x2_1 < x3_1 := of_decide_eq_true (by assumption)
                        have hge_ : 0 ≤ x2_1 := of_decide_eq_true (by assumption)
                        have h3_ : x3_1 < (x0_1.length : Int) := of_decide_eq_true (by assumption)
                        have hne0_ : ¬ (x2_1.toNat = x3_1.toNat) := by omega
                        have hne1_ : ¬ (x3_1.toNat = x2_1.toNat) := by omega
                        have hne2_ : ¬ (x2_1.toNat * 4 = x3_1.toNat * 4) := by omega
                        have hne3_ : ¬ (x3_1.toNat * 4 = x2_1.toNat * 4) := by omega
                        obtain ⟨ceX, hclX, hMX, hccX, hfrX⟩ := Kd.R_elem HO_0.out z38 (x3_1 : Int) (by omega) h3_
                        have hfX_0 : World.frozen? _ ⟨go10, (x3_1 : Int).toNat * 4, none⟩ = false := hfrX 0
                        have hfX_1 : World.frozen? _ ⟨go10, (x3_1 : Int).toNat * 4 + 1, none⟩ = false := hfrX 1
                        have hfX_2 : World.frozen? _ ⟨go10, (x3_1 : Int).toNat * 4 + 2, none⟩ = false := hfrX 2
                        have hfX_3 : World.frozen? _ ⟨go10, (x3_1 : Int).toNat * 4 + 3, none⟩ = false := hfrX 3
                        clear hclX hMX hccX hfrX hlt_ hge_ h3_
                        refine last_ (i := 15) (N := none) #[true, true, true, true, true, true, true, true, true, true, true, true, true, true, true, true] rfl rfl (one_of HT_.out (by kernel_rfl)) (by decide) (fun K hK => ?_)
                        refine skip_ (w1 := ?_) (by rfl) rfl ?_ ?_
                        rotate_left
                        · go_simp
                          rfl
                        refine hK.out _ _ ?_
                        clear hK K
                        refine done_ (done_of HT_.out (by kernel_rfl)) ?_
                        try go_wp2
                        (try simp only [← hl0_1])
                        go_roundg k1
                        case measure => have := HK1.out; omega
                        case rel => exact ⟨(y660), (wrap64 (x2_1 + 1)), (wrap64 (x3_1 - 1)), (by first | rfl | (simp; done) | (simp [*]; done)), (by first | rfl | (simp; done) | (simp [*]; done)), H', ⟨by have := HK1.out; omega⟩, ⟨by (try simp only [hl0_1]); (with_reducible repeat (first | apply Kd.R_alloc | apply Kd.R_drewN | apply Kd.R_drew)); exact HQ16.out⟩, ⟨by repeat (first | (with_reducible first | exact HK.out | apply Kept.alloc | apply Kept.drewN | apply Kept.drew | refine Kept.setCell ?_ HMgo10.out _ | refine Kept.setCell ?_ HMgo10.out _ | refine Kept.setCell ?_ HMgo10.out _ | refine Kept.setCell ?_ HMgo10.out _ | refine Kept.setCell ?_ HMgo10.out _ | refine Kept.setCell ?_ HMgo10.out _ | refine Kept.setCell ?_ HMgo10.out _ | refine Kept.setCell ?_ HMgo10.out _) | exact HK.out)⟩, ⟨by repeat (first | (with_reducible first | exact HB.out | apply below_alloc | apply pw_below_drewN | apply below_drew1 | refine below_set ?_ GB10.out | refine below_set ?_ GB10.out | refine below_set ?_ GB10.out | refine below_set ?_ GB10.out | refine below_set ?_ GB10.out | refine below_set ?_ GB10.out | refine below_set ?_ GB10.out | refine below_set ?_ GB10.out) | exact HB.out)⟩⟩
                      · rw [if_neg c12] at H
                        exact absurd H (by simp)
                    · rw [if_neg c11] at H
                      exact absurd H (by simp)
                  · rw [if_neg c9] at H
                    exact absurd H (by simp)
                · rw [if_neg c8] at H
                  exact absurd H (by simp)
              · rw [if_neg c7] at H
                exact absurd H (by simp)
            · rw [if_neg c6] at H
              exact absurd H (by simp)
          · rw [if_neg c5] at H
            exact absurd H (by simp)
        · rw [if_neg c4] at H
          exact absurd H (by simp)
      · rw [if_neg c3] at H
        have c3b0 : decide (x2_1 < x3_1) = false := decide_eq_false c3
        clear c3
        obtain rfl := Option.some.inj H
        go_wp2
        first | go_end0 | ((try simp only [Exit.inBlock, Exit.then]); refine bodyPost_ret (results_none rfl _ _ _) rfl ?_)
        exact ⟨by first | rfl | (simp [errW_none, errW_some] <;> rfl) | (simp [*, errW_none, errW_some] <;> rfl), (by first | exact (by (with_reducible repeat (first | apply Kd.R_alloc | apply Kd.R_drewN | apply Kd.R_drew)); exact HO_0.out) | (simp only [hl0_1]; exact (by (with_reducible repeat (first | apply Kd.R_alloc | apply Kd.R_drewN | apply Kd.R_drew)); exact HO_0.out))), by repeat (first | (with_reducible first | exact HB.out | apply below_alloc | apply pw_below_drewN | apply below_drew1) | exact HB.out), by repeat (first | (with_reducible first | exact HK.out | apply Kept.alloc | apply Kept.drewN | apply Kept.drew) | exact HK.out)⟩

/-! ### impl_Desk_all: function 64 -/

theorem growDE.info : (Try.prog.info? 38).map (fun i => (i.zero, i.size, i.bytes)) = some (some (.agg #[(.int .i64 0), (.int .i64 0), (.string ⟨#[]⟩), (.string ⟨#[]⟩)]), 4, 48) := by kernel_rfl
theorem growDE.zero (W : World) (base : Nat) (ok : Nat → Prop) : Kd.M k38 W base ok (⟨0, 0, ⟨#[]⟩, ⟨#[]⟩⟩ : S38) (Value.cells (.agg #[(.int .i64 0), (.int .i64 0), (.string ⟨#[]⟩), (.string ⟨#[]⟩)])).toList := k38_mkM W base ok _
set_option maxHeartbeats 4000000 in
set_option maxRecDepth 100000 in
theorem growDE (n : Int) (w : World) (h0 : 0 ≤ n) (h1 : n < 2932031007402) :
    Calls Try.prog 128 #[.slice none 0 0, .int .i64 n] w fun e w' => ∃ v0_ : Value, e = .returned v0_ ∧ Kd.R k38 38 w' w.heap.size (fun _ => True) v0_ [] ∧ Below w.heap.size w w' := by
  have HB := Aside0.mk (Below.refl w.heap.size w)
  have q0 : IntKind.i64.wrap 0 = 0 := by decide
  have q1 : IntKind.i64.wrap n = n := by simp [IntKind.wrap, IntKind.bits, IntKind.signed]; omega
  have q2 : ¬ n < 0 := by omega
  have q2b : decide (n < 0) = false := decide_eq_false q2
  by_cases hn : n > 0
  · have q3 : decide (n > 0) = true := decide_eq_true hn
    have q4 : decide (0 < n) = true := decide_eq_true hn
    have H1 := Aside0.mk h1
    have H0 := Aside0.mk h0
    clear h1 h0
    go_enter Try.func128, Try.ntmps128
    go_wp2_with ((with_reducible refine gate_builtin (b := .append) (xs := #[.tmp 20, .tmp 21]) rfl ?_); at_builtin; refine Kd.R_append_zeros k38 (w0 := w) w.heap.size rfl (.tmp 20) (.tmp 21) 25 3 38 (.agg #[(.int .i64 0), (.int .i64 0), (.string ⟨#[]⟩), (.string ⟨#[]⟩)]) 48 rfl Try.underlying25 Try.underlying3 growDE.info rfl (by decide) (by omega) (.slice none 0 0) [] (⟨0, 0, ⟨#[]⟩, ⟨#[]⟩⟩ : S38) n (fun _ => True) rfl rfl (growDE.zero _ _ _) (fun _ _ => trivial) (Kd.R_nil _ _ _ _ _) H0.out ?aB ?aS ?aL ?_; (case aB => exact (by repeat (first | (with_reducible first | exact HB.out | apply below_alloc | apply pw_below_drewN | apply below_drew1) | exact HB.out))); (case aS => exact (below_size (by repeat (first | (with_reducible first | exact HB.out | apply below_alloc | apply pw_below_drewN | apply below_drew1) | exact HB.out)))); (case aL => have := H1.out; have := H0.out; simp; omega); intro v2 w6 ho hb hg hat; obtain ⟨A2, c2, rfl, hc2, hC2⟩ := Kd.R_reads ho; have n0_ := Aside0.mk (hb); have n1_ := Aside0.mk (Kd.R_take (m := 0) ho (Nat.zero_le _)); clear HB; have HB := n0_; have HO := n1_; clear n0_ n1_; clear ho hb hg hat hC2 hc2)
    go_ret
    exact ⟨_, rfl, by (with_reducible repeat (first | apply Kd.R_alloc | apply Kd.R_drewN | apply Kd.R_drew)); exact HO.out, (by repeat (first | (with_reducible first | exact HB.out | apply below_alloc | apply pw_below_drewN | apply below_drew1) | exact HB.out))⟩
  · have q3 : decide (n > 0) = false := decide_eq_false hn
    have q4 : decide (0 < n) = false := decide_eq_false hn
    clear h1 h0
    go_enter Try.func128, Try.ntmps128
    go_wp2
    go_ret
    exact ⟨_, rfl, Kd.R_nil _ _ _ _ _, (by repeat (first | (with_reducible first | exact HB.out | apply below_alloc | apply pw_below_drewN | apply below_drew1) | exact HB.out))⟩
set_option maxHeartbeats 4000000 in
set_option maxRecDepth 100000 in
theorem concatDE (A0 : Option Addr) (c0 : Nat) (l0 : List S38) (A1 : Option Addr) (c1 : Nat) (l1 : List S38) (g : Nat) (w : World) (hg : w.heap[g]? = some (.cells #[.slice A0 l0.length c0, .slice A1 l1.length c1] 25 (0, 0))) (hr0 : Kd.C k38 w A0 l0.length l0) (hr1 : Kd.C k38 w A1 l1.length l1) (hl : l0.length + l1.length < 2932031007402) :
    Calls Try.prog 104 #[.slice (some ⟨g, 0, none⟩) 2 2] w fun e w' => ∃ v0_ : Value, e = .returned v0_ ∧ Kd.R k38 38 w' w.heap.size (fun _ => True) v0_ (l0 ++ l1) ∧ Below w.heap.size w w' := by
  have HB := Aside0.mk (Below.refl w.heap.size w)
  have huS := Try.underlying121
  have huL := Try.underlying25
  have LM := Aside0.mk hl
  have HR0 := Aside0.mk hr0
  have HR1 := Aside0.mk hr1
  have BK := Aside0.mk hg
  have hz0 : w.cell? ⟨g, 0, none⟩ = some (.slice A0 l0.length c0) := (blk_cell hg 0).trans rfl
  have hz1 : w.cell? ⟨g, 1, none⟩ = some (.slice A1 l1.length c1) := (blk_cell hg 1).trans rfl
  have HG := Aside0.mk (fun w => growDE ((l0.length : Int) + (l1.length : Int)) w (by omega) (by omega))
  have e0 : IntKind.i64.wrap (l0.length : Int) = (l0.length : Int) := by simp [IntKind.wrap, IntKind.bits, IntKind.signed]; omega
  have e1 : IntKind.i64.wrap ((l0.length : Int) + (l1.length : Int)) = (l0.length : Int) + (l1.length : Int) := by simp [IntKind.wrap, IntKind.bits, IntKind.signed]; omega
  have e2 : decide ((l0.length : Int) < 0) = false := decide_eq_false (by omega)
  have e3 : decide ((l0.length : Int) + (l1.length : Int) < 0) = false := decide_eq_false (by omega)
  have e4 : IntKind.i64.wrap 0 = 0 := by decide
  have e5 : IntKind.i64.wrap 1 = 1 := by decide
  have e6 : IntKind.i64.wrap 2 = 2 := by decide
  have e7 : ¬ ((l0.length : Int) < 0) := by omega
  have e8 : ¬ ((l0.length : Int) + (l1.length : Int) < 0) := by omega
  clear hl hr0 hr1 hg
  go_enter Try.func104, Try.ntmps104
  go_wp2
  refine wp_loop_rounds 3 ?_
  repeat any_goals (rw [rounds_succ]; go_wp2_with (go_at_call 128; refine (HG.out _).mono ?_; rintro e wq ⟨v2, rfl, ho, hb⟩; have n0_ := Aside0.mk (below_step (by repeat (first | (with_reducible first | exact HB.out | apply below_alloc | apply pw_below_drewN | apply below_drew1) | exact HB.out)) hb); have n1_ := Aside0.mk (Kd.R_lower ho (below_size (by repeat (first | (with_reducible first | exact HB.out | apply below_alloc | apply pw_below_drewN | apply below_drew1) | exact HB.out)))); clear HB; have HB := n0_; have HO := n1_; clear n0_ n1_ hb ho; have hz0 : wq.cell? ⟨g, 0, none⟩ = some (.slice A0 l0.length c0) := (blk_cell (blk_below BK.out HB.out) 0).trans rfl; have hz1 : wq.cell? ⟨g, 1, none⟩ = some (.slice A1 l1.length c1) := (blk_cell (blk_below BK.out HB.out) 1).trans rfl))
  refine wp_loop_rounds 3 ?_
  rw [rounds_succ]
  go_wp2_with ((with_reducible refine gate_builtin (b := .append) (xs := #[.tmp 31, .tmp 32]) rfl ?_); at_builtin; refine Kd.R_append_rows k38 (w0 := w) w.heap.size rfl (.tmp 31) (.tmp 32) 25 38 (.agg #[(.int .i64 0), (.int .i64 0), (.string ⟨#[]⟩), (.string ⟨#[]⟩)]) 48 rfl Try.underlying25 growDE.info rfl (by decide) (by omega) v2 ([]) l0 _ _ _ (fun _ => True) (fun _ => False) rfl rfl ?aO ?aR (fun _ _ h => h) (fun _ h => h.elim) ?aF ?aB ?aS ?aL ?_; (case aR => repeat (first | exact (Kd.C_below HR0.out HB.out) | (with_reducible refine Kd.C_alloc ?_ _) | (with_reducible refine Kd.C_drewN ?_ _) | (with_reducible refine Kd.C_drew ?_))); (case aB => exact (by repeat (first | (with_reducible first | exact HB.out | apply below_alloc | apply pw_below_drewN | apply below_drew1) | exact HB.out))); (case aF => exact (fun _ _ => trivial)); (case aO => exact (by (with_reducible repeat (first | apply Kd.R_alloc | apply Kd.R_drewN | apply Kd.R_drew)); exact HO.out)); (case aS => exact (below_size (by repeat (first | (with_reducible first | exact HB.out | apply below_alloc | apply pw_below_drewN | apply below_drew1) | exact HB.out)))); (case aL => have := LM.out; simp; omega); intro v3 wq ho hb hg hat; have n1_ := Aside0.mk (hb); have n2_ := Aside0.mk (ho); clear HB HO; have HB := n1_; have HO := n2_; clear n1_ n2_ ho hb hg hat; have hz0 : wq.cell? ⟨g, 0, none⟩ = some (.slice A0 l0.length c0) := (blk_cell (blk_below BK.out HB.out) 0).trans rfl; have hz1 : wq.cell? ⟨g, 1, none⟩ = some (.slice A1 l1.length c1) := (blk_cell (blk_below BK.out HB.out) 1).trans rfl)
  rw [rounds_succ]
  go_wp2_with ((with_reducible refine gate_builtin (b := .append) (xs := #[.tmp 31, .tmp 32]) rfl ?_); at_builtin; refine Kd.R_append_rows k38 (w0 := w) w.heap.size rfl (.tmp 31) (.tmp 32) 25 38 (.agg #[(.int .i64 0), (.int .i64 0), (.string ⟨#[]⟩), (.string ⟨#[]⟩)]) 48 rfl Try.underlying25 growDE.info rfl (by decide) (by omega) v3 ([] ++ l0) l1 _ _ _ (fun _ => True) (fun _ => False) rfl rfl ?aO ?aR (fun _ _ h => h) (fun _ h => h.elim) ?aF ?aB ?aS ?aL ?_; (case aR => repeat (first | exact (Kd.C_below HR1.out HB.out) | (with_reducible refine Kd.C_alloc ?_ _) | (with_reducible refine Kd.C_drewN ?_ _) | (with_reducible refine Kd.C_drew ?_))); (case aB => exact (by repeat (first | (with_reducible first | exact HB.out | apply below_alloc | apply pw_below_drewN | apply below_drew1) | exact HB.out))); (case aF => exact (fun _ _ => trivial)); (case aO => exact (by (with_reducible repeat (first | apply Kd.R_alloc | apply Kd.R_drewN | apply Kd.R_drew)); exact HO.out)); (case aS => exact (below_size (by repeat (first | (with_reducible first | exact HB.out | apply below_alloc | apply pw_below_drewN | apply below_drew1) | exact HB.out)))); (case aL => have := LM.out; simp; omega); intro v4 wq ho hb hg hat; have n1_ := Aside0.mk (hb); have n2_ := Aside0.mk (ho); clear HB HO; have HB := n1_; have HO := n2_; clear n1_ n2_ ho hb hg hat; have hz0 : wq.cell? ⟨g, 0, none⟩ = some (.slice A0 l0.length c0) := (blk_cell (blk_below BK.out HB.out) 0).trans rfl; have hz1 : wq.cell? ⟨g, 1, none⟩ = some (.slice A1 l1.length c1) := (blk_cell (blk_below BK.out HB.out) 1).trans rfl)
  rw [rounds_succ]
  go_wp2
  go_ret
  exact ⟨_, rfl, by have HO_ := HO.out; simp only [List.nil_append] at HO_; (with_reducible repeat (first | apply Kd.R_alloc | apply Kd.R_drewN | apply Kd.R_drew)); exact HO_, (by repeat (first | (with_reducible first | exact HB.out | apply below_alloc | apply pw_below_drewN | apply below_drew1) | exact HB.out))⟩
def impl_Desk_all.f (k : Nat) (l0_0 : List ByteArray) (l0_1 l0_2 : List S38) : Option (List S38) := (impl_DeskEdit_57.f l0_2).bind fun y => (impl_DeskEdit_103.f k y).bind fun z => if l0_1.length + z.length < 2932031007402 then some (l0_1 ++ z) else none
theorem impl_Desk_all.mono : ∀ l0_0 l0_1 l0_2 k, LeO (impl_Desk_all.f k l0_0 l0_1 l0_2) (impl_Desk_all.f (k + 1) l0_0 l0_1 l0_2) := by
  intro l0_0 l0_1 l0_2 k
  unfold impl_Desk_all.f
  exact LeO.bind (LeO.refl _) (fun _ => LeO.bind (impl_DeskEdit_103.mono _ _) (fun _ => LeO.refl _))
set_option maxHeartbeats 4000000 in
set_option maxRecDepth 100000 in
theorem impl_Desk_all.calls (k : Nat) (A0_0 : Option Addr) (c0_0 : Nat) (l0_0 : List ByteArray) (A0_1 : Option Addr) (c0_1 : Nat) (l0_1 : List S38) (A0_2 : Option Addr) (c0_2 : Nat) (l0_2 : List S38) (r : List S38) (w : World) (hr0_0 : Kd.C Kd.string w A0_0 l0_0.length l0_0) (hc0_0 : l0_0.length ≤ c0_0) (hr0_1 : Kd.C k38 w A0_1 l0_1.length l0_1) (hc0_1 : l0_1.length ≤ c0_1) (hr0_2 : Kd.C k38 w A0_2 l0_2.length l0_2) (hc0_2 : l0_2.length ≤ c0_2) (h : impl_Desk_all.f k l0_0 l0_1 l0_2 = some r) :
    Calls Try.prog 64 #[.agg #[.slice A0_0 l0_0.length c0_0, .slice A0_1 l0_1.length c0_1, .slice A0_2 l0_2.length c0_2]] w fun e w' => ∃ v0_ : Value, e = .returned (v0_) ∧ Kd.R k38 38 w' w.heap.size (fun _ => True) v0_ r ∧ Below w.heap.size w w' := by
  have hu35 := Try.underlying27
  have huS := Try.underlying121
  have huL := Try.underlying25
  have HB := Aside0.mk (Below.refl w.heap.size w)
  unfold impl_Desk_all.f at h
  obtain ⟨y, hy, h⟩ := Option.bind_eq_some_iff.mp h
  obtain ⟨z, hz, h⟩ := Option.bind_eq_some_iff.mp h
  split at h
  · rename_i hl
    obtain rfl := Option.some.inj h
    have HY := Aside0.mk hy
    have HZ := Aside0.mk hz
    have LM := Aside0.mk hl
    have HR1 := Aside0.mk hr0_1
    have HR2 := Aside0.mk hr0_2
    have HC2 := Aside0.mk hc0_2
    clear hy hz hl hr0_0 hr0_1 hr0_2 hc0_0 hc0_1 hc0_2
    go_enter Try.func64, Try.ntmps64
    go_wp2_with (first | ((with_reducible refine gate_dst (N := 1) rfl ?_); refine box_event ?hg (N := 1) ?hd (cs := #[.slice A0_0 l0_0.length c0_0, .slice A0_1 l0_1.length c0_1, .slice A0_2 l0_2.length c0_2]) (t := 27) ?hr ?_; (case hd => rfl); (case hg => rfl); (case hr => first | (go_simp; done) | (go_simp; rfl)); intro gd hg wq hbox hb; have n0_ := Aside0.mk (below_step HB.out hb); have n1_ := Aside0.mk (hbox); clear HB; have HB := n0_; have BK := n1_; clear n0_ n1_; clear hb hbox hg; have hz1 : wq.cell? ⟨gd, 1, none⟩ = some (.slice A0_1 l0_1.length c0_1) := (blk_cell BK.out 1).trans rfl; have hz2 : wq.cell? ⟨gd, 2, none⟩ = some (.slice A0_2 l0_2.length c0_2) := (blk_cell BK.out 2).trans rfl) | (go_at_call 57; (with_reducible refine (impl_DeskEdit_57.calls _ _ l0_2 y _ (by repeat (first | exact (Kd.C_below HR2.out HB.out) | (with_reducible refine Kd.C_alloc ?_ _) | (with_reducible refine Kd.C_drewN ?_ _) | (with_reducible refine Kd.C_drew ?_))) HC2.out HY.out).mono ?_); rintro e wq ⟨v2, rfl, ho, hb⟩; have m0_ := Aside0.mk (blk_below (by (with_reducible repeat (first | refine blk_drewN ?_ _ | refine blk_drew ?_ | refine blk_alloc ?_ _)); exact BK.out) hb); have n0_ := Aside0.mk (below_step (by repeat (first | (with_reducible first | exact HB.out | apply below_alloc | apply pw_below_drewN | apply below_drew1) | exact HB.out)) hb); have n1_ := Aside0.mk (Kd.R_lower (Kd.R_newB ho (by (with_reducible repeat (first | refine blk_drewN ?_ _ | refine blk_drew ?_ | refine blk_alloc ?_ _)); exact BK.out)) (below_size (by repeat (first | (with_reducible first | exact HB.out | apply below_alloc | apply pw_below_drewN | apply below_drew1) | exact HB.out)))); clear HB BK; have HB := n0_; have HO := n1_; have BK := m0_; clear n0_ n1_ m0_ hb ho; have hz1 : wq.cell? ⟨gd, 1, none⟩ = some (.slice A0_1 l0_1.length c0_1) := (blk_cell BK.out 1).trans rfl; have hz2 : wq.cell? ⟨gd, 2, none⟩ = some (.slice A0_2 l0_2.length c0_2) := (blk_cell BK.out 2).trans rfl) | (go_at_call 103; (with_reducible refine (impl_DeskEdit_103.calls k (fun k_ => True ∧ k_ ≠ gd) v2 y z w _ (by repeat (first | (with_reducible first | exact HB.out | apply below_alloc | apply pw_below_drewN | apply below_drew1) | exact HB.out)) (by (with_reducible repeat (first | apply Kd.R_alloc | apply Kd.R_drewN | apply Kd.R_drew)); exact HO.out) HZ.out).mono ?_); rintro e wq ⟨rfl, ho, hb, hk⟩; have m0_ := Aside0.mk ((hk.2 gd (blk_lt (by (with_reducible repeat (first | refine blk_drewN ?_ _ | refine blk_drew ?_ | refine blk_alloc ?_ _)); exact BK.out)) (fun h_ => h_.2 rfl)).trans (by (with_reducible repeat (first | refine blk_drewN ?_ _ | refine blk_drew ?_ | refine blk_alloc ?_ _)); exact BK.out)); obtain ⟨A2, c2, rfl, hc2, hC2⟩ := Kd.R_reads ho; have n0_ := Aside0.mk hb; have n1_ := Aside0.mk hC2; clear HB BK HO; have HB := n0_; have HC := n1_; have BK := m0_; clear n0_ n1_ m0_ hb ho hk hc2 hC2; have hz1 : wq.cell? ⟨gd, 1, none⟩ = some (.slice A0_1 l0_1.length c0_1) := (blk_cell BK.out 1).trans rfl; have hz2 : wq.cell? ⟨gd, 2, none⟩ = some (.slice A0_2 l0_2.length c0_2) := (blk_cell BK.out 2).trans rfl) | (go_at_call 104; (with_reducible refine (concatDE A0_1 c0_1 l0_1 A2 c2 z _ _ ?hX ?hY ?hZ LM.out).mono ?_); (case hX => exact heap_alloc_new _ _); (case hY => exact (by repeat (first | exact (Kd.C_below HR1.out HB.out) | (with_reducible refine Kd.C_alloc ?_ _) | (with_reducible refine Kd.C_drewN ?_ _) | (with_reducible refine Kd.C_drew ?_)))); (case hZ => exact (by repeat (first | exact HC.out | (with_reducible refine Kd.C_alloc ?_ _) | (with_reducible refine Kd.C_drewN ?_ _) | (with_reducible refine Kd.C_drew ?_)))); rintro e wq ⟨v5, rfl, ho, hb⟩; have n0_ := Aside0.mk (below_step (by repeat (first | (with_reducible first | exact HB.out | apply below_alloc | apply pw_below_drewN | apply below_drew1) | exact HB.out)) hb); have n1_ := Aside0.mk (Kd.R_lower ho (below_size (by repeat (first | (with_reducible first | exact HB.out | apply below_alloc | apply pw_below_drewN | apply below_drew1) | exact HB.out)))); clear HB; have HB := n0_; have HO := n1_; clear n0_ n1_ hb ho))
    go_ret
    exact ⟨_, rfl, by (with_reducible repeat (first | apply Kd.R_alloc | apply Kd.R_drewN | apply Kd.R_drew)); exact HO.out, (by repeat (first | (with_reducible first | exact HB.out | apply below_alloc | apply pw_below_drewN | apply below_drew1) | exact HB.out))⟩
  · cases h

def impl_Desk_all.e (k : Nat) : Refl.Ent G := ⟨64, [(.agg gL1)], .one (.c (.row 38 true)), fun x => impl_Desk_all.f k x.1 x.2.1 x.2.2⟩
theorem impl_Desk_all.ok (k : Nat) : Refl.EntOK Try.prog (impl_Desk_all.e k) := Refl.entOK_new Try.func64 (by kernel_rfl) (fun x y h S w vals hv => by
  cases vals with
  | nil => exact hv.elim
  | cons y0 vals =>
    cases vals with
    | cons _ _ => exact hv.2.elim
    | nil =>
      obtain ⟨vs, rfl, hcs⟩ : ∃ vs : List Value, y0 = .agg vs.toArray ∧ Refl.CellsRep (Γ := G) w.heap.size S Refl.μ0 w [.row 9 x.1 .ro, .row 38 x.2.1 .ro, .row 38 x.2.2 .ro] vs := hv.1
      match vs, hcs with
      | [v0, v1, v2], ⟨q0, q1, q2, _⟩ =>
        obtain ⟨A0, c0, rfl, hc0, hC0⟩ := c_of Kd.string rkStr (fun _ _ => rfl) rfl q0
        obtain ⟨A1, c1, rfl, hc1, hC1⟩ := c_of k38 rk38 (fun _ _ => k38_mk _ _) rfl q1
        obtain ⟨A2, c2, rfl, hc2, hC2⟩ := c_of k38 rk38 (fun _ _ => k38_mk _ _) rfl q2
        refine (impl_Desk_all.calls k A0 c0 x.1 A1 c1 x.2.1 A2 c2 x.2.2 y w hC0 hc0 hC1 hc1 hC2 hc2 h).mono ?_
        rintro en w' ⟨v, rfl, hR, hb⟩
        obtain ⟨μ, m1, m2, m3⟩ := Refl.newRow_rep (Γ := G) (q := 38) (S := S) (new_of k38 rk38 (fun _ _ _ _ _ h => k38_openM h) rfl hR)
        exact ⟨μ, [.f (.c (.row 38 y (.tok 0 0)))], [v], [.row 38 y (.tok 0 0)], rfl, hb, m1, m2, ⟨m3, trivial⟩, by kernel_rfl, by kernel_rfl, by kernel_rfl⟩)

/-! ### impl_IsDesk: function 16 -/

def impl_IsDesk.j0 : Nat → Bool → List ByteArray → List (S38) → List (S38) → Option (Bool)
  | 0, _, _, _, _ => none
  | k + 1, x18, x662000, x662001, x662002 => if x18 = true then (some false) else ((impl_Desk_all.f k x662000 x662001 x662002).bind fun t663 => ((impl_made.f k x662000 t663).bind fun bt666 => (some bt666.2)))

def impl_IsDesk.f (k : Nat) (l0_0 : List ByteArray) (l0_1 : List (S38)) (l0_2 : List (S38)) : Option (Bool) := (impl_areItems.f k l0_0).bind fun t662 => (if t662 = true then (impl_IsDesk.j0 k (decide ((wrap64 ((l0_1.length : Int) + (l0_2.length : Int))) > 30)) l0_0 l0_1 l0_2) else (impl_IsDesk.j0 k true l0_0 l0_1 l0_2))

theorem impl_IsDesk.mono_l : ∀ k, (∀ y0 y1 y2 y3, LeO (impl_IsDesk.j0 k y0 y1 y2 y3) (impl_IsDesk.j0 (k + 1) y0 y1 y2 y3))
  | 0 => fun _ _ _ _ r h => by simp [impl_IsDesk.j0] at h
  | k + 1 => by
    have ih0 := impl_IsDesk.mono_l k
    · intro y0 y1 y2 y3
      unfold impl_IsDesk.j0
      repeat' first
      | (with_reducible exact ih0 _ _ _ _)
      | (with_reducible exact impl_Desk_all.mono _ _ _ _)
      | (with_reducible exact impl_areItems.mono _ _)
      | (with_reducible exact impl_made.mono _ _ _)
      | (with_reducible exact LeO.refl _)
      | (with_reducible exact LeO.none _)
      | (with_reducible refine LeO.ite ?_ ?_)
      | (with_reducible refine LeO.bind ?_ (fun _ => ?_))
      | exact ih0 _ _ _ _
      | exact impl_Desk_all.mono _ _ _ _
      | exact impl_areItems.mono _ _
      | exact impl_made.mono _ _ _
      | exact LeO.none _
      | refine LeO.ite ?_ ?_
      | refine LeO.bind ?_ (fun _ => ?_)

theorem impl_IsDesk.mono : ∀ a0 a1 a2 k, LeO (impl_IsDesk.f k a0 a1 a2) (impl_IsDesk.f (k + 1) a0 a1 a2) := by
  intro a0 a1 a2 k
  have ih0 := impl_IsDesk.mono_l k
  unfold impl_IsDesk.f
  repeat' first
      | (with_reducible exact ih0 _ _ _ _)
      | (with_reducible exact impl_Desk_all.mono _ _ _ _)
      | (with_reducible exact impl_areItems.mono _ _)
      | (with_reducible exact impl_made.mono _ _ _)
      | (with_reducible exact LeO.refl _)
      | (with_reducible exact LeO.none _)
      | (with_reducible refine LeO.ite ?_ ?_)
      | (with_reducible refine LeO.bind ?_ (fun _ => ?_))
      | exact ih0 _ _ _ _
      | exact impl_Desk_all.mono _ _ _ _
      | exact impl_areItems.mono _ _
      | exact impl_made.mono _ _ _
      | exact LeO.none _
      | refine LeO.ite ?_ ?_
      | refine LeO.bind ?_ (fun _ => ?_)

def impl_IsDesk.e (k : Nat) : Refl.Ent G := ⟨16, [(.agg gL1)], .one (.c .bool), fun x => impl_IsDesk.f k x.1 x.2.1 x.2.2⟩
def impl_IsDesk.pj0 : Refl.Pn G (Refl.PT G (impl_IsDesk.e 0).ol) := ⟨false, 1000001, ⟨[(18, .v (.c .bool)), (1, .box 1 0), (2, .k (Value.bool false))], [(1, 27, gL2)]⟩, fun k x => impl_IsDesk.j0 k x.1 x.2.1 x.2.2.1 x.2.2.2⟩
theorem impl_IsDesk.ok (k : Nat) : Refl.EntOK Try.prog (impl_IsDesk.e k) := Refl.ent_ok 1000000 k GC (fun k => [impl_areItems.e k, impl_Desk_all.e k, impl_made.e k]) (fun k => ⟨impl_areItems.ok k, impl_Desk_all.ok k, impl_made.ok k, trivial⟩) Try.func16 (by kernel_rfl) [impl_IsDesk.pj0] (ps := [impl_IsDesk.pj0]) (by kernel_rfl) ⟨⟨fun x => by kernel_rfl, fun k x => by kernel_rfl⟩, trivial⟩ (fun x => by kernel_rfl)

/-! ### impl_UndoEdit: function 8 -/

def impl_UndoEdit.j0 : Nat → Int → Bool → List ByteArray → List (S38) → List (S38) → Option (List ByteArray × (List (S38)) × (List (S38)) × Bool)
  | 0, _, _, _, _, _ => none
  | k + 1, x4, x15, x671000, x671001, x671002 => if x15 = true then (some (([] : List ByteArray), ([] : List (S38)), ([] : List (S38)), false)) else ((slices_Clone_string_string.f x671000).bind fun t673 => (if 0 ≤ x4 then (if x4 ≤ (x671001.length : Int) then ((impl_DeskEdit_57.f (x671001.take (x4 : Int).toNat)).bind fun t680 => ((impl_DeskEdit_57.f x671002).bind fun t683 => (if 0 ≤ x4 then (if x4 < (x671001.length : Int) then ((some (([(⟨(rd_T38 x671001 x4).f0, (rd_T38 x671001 x4).f1, (rd_T38 x671001 x4).f2, (rd_T38 x671001 x4).f3⟩ : S38)] : List (S38)) : List (S38))).bind fun y687 => (if Refl.appLen t683 y687 < 2932031007402 then (some (t673, t680, (t683 ++ y687), true)) else (none))) else (none)) else (none)))) else (none)) else (none)))

def impl_UndoEdit.f (k : Nat) (l0_0 : List ByteArray) (l0_1 : List (S38)) (l0_2 : List (S38)) : Option (List ByteArray × (List (S38)) × (List (S38)) × Bool) := (impl_IsDesk.f k l0_0 l0_1 l0_2).bind fun t672 => (if t672 = true then (impl_UndoEdit.j0 k (wrap64 ((l0_1.length : Int) - 1)) (decide ((wrap64 ((l0_1.length : Int) - 1)) < 0)) l0_0 l0_1 l0_2) else (impl_UndoEdit.j0 k (wrap64 ((l0_1.length : Int) - 1)) true l0_0 l0_1 l0_2))

theorem impl_UndoEdit.mono_l : ∀ k, (∀ y0 y1 y2 y3 y4, LeO (impl_UndoEdit.j0 k y0 y1 y2 y3 y4) (impl_UndoEdit.j0 (k + 1) y0 y1 y2 y3 y4))
  | 0 => fun _ _ _ _ _ r h => by simp [impl_UndoEdit.j0] at h
  | k + 1 => by
    have ih0 := impl_UndoEdit.mono_l k
    · intro y0 y1 y2 y3 y4
      unfold impl_UndoEdit.j0
      repeat' first
      | (with_reducible exact ih0 _ _ _ _ _)
      | (with_reducible exact impl_IsDesk.mono _ _ _ _)
      | (with_reducible exact LeO.refl _)
      | (with_reducible exact LeO.none _)
      | (with_reducible refine LeO.ite ?_ ?_)
      | (with_reducible refine LeO.bind ?_ (fun _ => ?_))
      | exact ih0 _ _ _ _ _
      | exact impl_IsDesk.mono _ _ _ _
      | exact LeO.none _
      | refine LeO.ite ?_ ?_
      | refine LeO.bind ?_ (fun _ => ?_)

theorem impl_UndoEdit.mono : ∀ a0 a1 a2 k, LeO (impl_UndoEdit.f k a0 a1 a2) (impl_UndoEdit.f (k + 1) a0 a1 a2) := by
  intro a0 a1 a2 k
  have ih0 := impl_UndoEdit.mono_l k
  unfold impl_UndoEdit.f
  repeat' first
      | (with_reducible exact ih0 _ _ _ _ _)
      | (with_reducible exact impl_IsDesk.mono _ _ _ _)
      | (with_reducible exact LeO.refl _)
      | (with_reducible exact LeO.none _)
      | (with_reducible refine LeO.ite ?_ ?_)
      | (with_reducible refine LeO.bind ?_ (fun _ => ?_))
      | exact ih0 _ _ _ _ _
      | exact impl_IsDesk.mono _ _ _ _
      | exact LeO.none _
      | refine LeO.ite ?_ ?_
      | refine LeO.bind ?_ (fun _ => ?_)

def impl_UndoEdit.e (k : Nat) : Refl.Ent G := ⟨8, [(.agg gL1)], .tup [(.agg gL3), (.c .bool)], fun x => impl_UndoEdit.f k x.1 x.2.1 x.2.2⟩
def impl_UndoEdit.pj0 : Refl.Pn G (Refl.PT G (impl_UndoEdit.e 0).ol) := ⟨false, 1000002, ⟨[(4, .v (.c li)), (15, .v (.c .bool)), (1, .box 1 0), (2, .box 2 0), (3, .k (Value.bool false))], [(1, 27, gL2), (2, 27, gL6)]⟩, fun k x => impl_UndoEdit.j0 k x.1 x.2.1 x.2.2.1 x.2.2.2.1 x.2.2.2.2⟩
theorem impl_UndoEdit.ok (k : Nat) : Refl.EntOK Try.prog (impl_UndoEdit.e k) := Refl.ent_ok 1000000 k GC (fun k => [impl_IsDesk.e k, slices_Clone_string_string.e k, impl_DeskEdit_57.e k]) (fun k => ⟨impl_IsDesk.ok k, slices_Clone_string_string.ok k, impl_DeskEdit_57.ok k, trivial⟩) Try.func8 (by kernel_rfl) [impl_UndoEdit.pj0] (ps := [impl_UndoEdit.pj0]) (by kernel_rfl) ⟨⟨fun x => by kernel_rfl, fun k x => by kernel_rfl⟩, trivial⟩ (fun x => by kernel_rfl)

/-! ### impl_RedoEdit: function 10 -/

def impl_RedoEdit.j0 : Nat → Int → Bool → List ByteArray → List (S38) → List (S38) → Option (List ByteArray × (List (S38)) × (List (S38)) × Bool)
  | 0, _, _, _, _, _ => none
  | k + 1, x4, x15, x694000, x694001, x694002 => if x15 = true then (some (([] : List ByteArray), ([] : List (S38)), ([] : List (S38)), false)) else ((slices_Clone_string_string.f x694000).bind fun t696 => ((impl_DeskEdit_57.f x694001).bind fun t699 => (if 0 ≤ x4 then (if x4 < (x694002.length : Int) then ((some (([(⟨(rd_T38 x694002 x4).f0, (rd_T38 x694002 x4).f1, (rd_T38 x694002 x4).f2, (rd_T38 x694002 x4).f3⟩ : S38)] : List (S38)) : List (S38))).bind fun y703 => (if Refl.appLen t699 y703 < 2932031007402 then (if 0 ≤ x4 then (if x4 ≤ (x694002.length : Int) then ((impl_DeskEdit_57.f (x694002.take (x4 : Int).toNat)).bind fun t713 => (some (t696, (t699 ++ y703), t713, true))) else (none)) else (none)) else (none))) else (none)) else (none))))

def impl_RedoEdit.f (k : Nat) (l0_0 : List ByteArray) (l0_1 : List (S38)) (l0_2 : List (S38)) : Option (List ByteArray × (List (S38)) × (List (S38)) × Bool) := (impl_IsDesk.f k l0_0 l0_1 l0_2).bind fun t695 => (if t695 = true then (impl_RedoEdit.j0 k (wrap64 ((l0_2.length : Int) - 1)) (decide ((wrap64 ((l0_2.length : Int) - 1)) < 0)) l0_0 l0_1 l0_2) else (impl_RedoEdit.j0 k (wrap64 ((l0_2.length : Int) - 1)) true l0_0 l0_1 l0_2))

theorem impl_RedoEdit.mono_l : ∀ k, (∀ y0 y1 y2 y3 y4, LeO (impl_RedoEdit.j0 k y0 y1 y2 y3 y4) (impl_RedoEdit.j0 (k + 1) y0 y1 y2 y3 y4))
  | 0 => fun _ _ _ _ _ r h => by simp [impl_RedoEdit.j0] at h
  | k + 1 => by
    have ih0 := impl_RedoEdit.mono_l k
    · intro y0 y1 y2 y3 y4
      unfold impl_RedoEdit.j0
      repeat' first
      | (with_reducible exact ih0 _ _ _ _ _)
      | (with_reducible exact impl_IsDesk.mono _ _ _ _)
      | (with_reducible exact LeO.refl _)
      | (with_reducible exact LeO.none _)
      | (with_reducible refine LeO.ite ?_ ?_)
      | (with_reducible refine LeO.bind ?_ (fun _ => ?_))
      | exact ih0 _ _ _ _ _
      | exact impl_IsDesk.mono _ _ _ _
      | exact LeO.none _
      | refine LeO.ite ?_ ?_
      | refine LeO.bind ?_ (fun _ => ?_)

theorem impl_RedoEdit.mono : ∀ a0 a1 a2 k, LeO (impl_RedoEdit.f k a0 a1 a2) (impl_RedoEdit.f (k + 1) a0 a1 a2) := by
  intro a0 a1 a2 k
  have ih0 := impl_RedoEdit.mono_l k
  unfold impl_RedoEdit.f
  repeat' first
      | (with_reducible exact ih0 _ _ _ _ _)
      | (with_reducible exact impl_IsDesk.mono _ _ _ _)
      | (with_reducible exact LeO.refl _)
      | (with_reducible exact LeO.none _)
      | (with_reducible refine LeO.ite ?_ ?_)
      | (with_reducible refine LeO.bind ?_ (fun _ => ?_))
      | exact ih0 _ _ _ _ _
      | exact impl_IsDesk.mono _ _ _ _
      | exact LeO.none _
      | refine LeO.ite ?_ ?_
      | refine LeO.bind ?_ (fun _ => ?_)

def impl_RedoEdit.e (k : Nat) : Refl.Ent G := ⟨10, [(.agg gL1)], .tup [(.agg gL3), (.c .bool)], fun x => impl_RedoEdit.f k x.1 x.2.1 x.2.2⟩
def impl_RedoEdit.pj0 : Refl.Pn G (Refl.PT G (impl_RedoEdit.e 0).ol) := ⟨false, 1000002, ⟨[(4, .v (.c li)), (15, .v (.c .bool)), (1, .box 1 0), (2, .box 2 0), (3, .k (Value.bool false))], [(1, 27, gL2), (2, 27, gL6)]⟩, fun k x => impl_RedoEdit.j0 k x.1 x.2.1 x.2.2.1 x.2.2.2.1 x.2.2.2.2⟩
theorem impl_RedoEdit.ok (k : Nat) : Refl.EntOK Try.prog (impl_RedoEdit.e k) := Refl.ent_ok 1000000 k GC (fun k => [impl_IsDesk.e k, slices_Clone_string_string.e k, impl_DeskEdit_57.e k]) (fun k => ⟨impl_IsDesk.ok k, slices_Clone_string_string.ok k, impl_DeskEdit_57.ok k, trivial⟩) Try.func10 (by kernel_rfl) [impl_RedoEdit.pj0] (ps := [impl_RedoEdit.pj0]) (by kernel_rfl) ⟨⟨fun x => by kernel_rfl, fun k x => by kernel_rfl⟩, trivial⟩ (fun x => by kernel_rfl)

/-! ### impl_ItemsAfter: function 17 -/

def impl_ItemsAfter.j0 : Nat → Int → Bool → List ByteArray → List (S38) → List (S38) → Option (List ByteArray × Bool)
  | 0, _, _, _, _, _ => none
  | k + 1, x1, x20, x717000, x717001, x717002 => if x20 = true then (some (([] : List ByteArray), false)) else ((impl_Desk_all.f k x717000 x717001 x717002).bind fun t719 => (if 0 ≤ x1 then (if x1 ≤ (t719.length : Int) then ((impl_made.f k x717000 (t719.take (x1 : Int).toNat)).bind fun bt726 => (some (bt726.1, bt726.2))) else (none)) else (none)))

def impl_ItemsAfter.f (k : Nat) (l0_0 : List ByteArray) (l0_1 : List (S38)) (l0_2 : List (S38)) (a1 : Int) : Option (List ByteArray × Bool) := (impl_IsDesk.f k l0_0 l0_1 l0_2).bind fun t717 => (if t717 = true then ((impl_within.f a1 0 (wrap64 ((l0_1.length : Int) + (l0_2.length : Int)))).bind fun t718 => (impl_ItemsAfter.j0 k a1 (!t718) l0_0 l0_1 l0_2)) else (impl_ItemsAfter.j0 k a1 true l0_0 l0_1 l0_2))

theorem impl_ItemsAfter.mono_l : ∀ k, (∀ y0 y1 y2 y3 y4, LeO (impl_ItemsAfter.j0 k y0 y1 y2 y3 y4) (impl_ItemsAfter.j0 (k + 1) y0 y1 y2 y3 y4))
  | 0 => fun _ _ _ _ _ r h => by simp [impl_ItemsAfter.j0] at h
  | k + 1 => by
    have ih0 := impl_ItemsAfter.mono_l k
    · intro y0 y1 y2 y3 y4
      unfold impl_ItemsAfter.j0
      repeat' first
      | (with_reducible exact ih0 _ _ _ _ _)
      | (with_reducible exact impl_Desk_all.mono _ _ _ _)
      | (with_reducible exact impl_IsDesk.mono _ _ _ _)
      | (with_reducible exact impl_made.mono _ _ _)
      | (with_reducible exact LeO.refl _)
      | (with_reducible exact LeO.none _)
      | (with_reducible refine LeO.ite ?_ ?_)
      | (with_reducible refine LeO.bind ?_ (fun _ => ?_))
      | exact ih0 _ _ _ _ _
      | exact impl_Desk_all.mono _ _ _ _
      | exact impl_IsDesk.mono _ _ _ _
      | exact impl_made.mono _ _ _
      | exact LeO.none _
      | refine LeO.ite ?_ ?_
      | refine LeO.bind ?_ (fun _ => ?_)

theorem impl_ItemsAfter.mono : ∀ a0 a1 a2 a3 k, LeO (impl_ItemsAfter.f k a0 a1 a2 a3) (impl_ItemsAfter.f (k + 1) a0 a1 a2 a3) := by
  intro a0 a1 a2 a3 k
  have ih0 := impl_ItemsAfter.mono_l k
  unfold impl_ItemsAfter.f
  repeat' first
      | (with_reducible exact ih0 _ _ _ _ _)
      | (with_reducible exact impl_Desk_all.mono _ _ _ _)
      | (with_reducible exact impl_IsDesk.mono _ _ _ _)
      | (with_reducible exact impl_made.mono _ _ _)
      | (with_reducible exact LeO.refl _)
      | (with_reducible exact LeO.none _)
      | (with_reducible refine LeO.ite ?_ ?_)
      | (with_reducible refine LeO.bind ?_ (fun _ => ?_))
      | exact ih0 _ _ _ _ _
      | exact impl_Desk_all.mono _ _ _ _
      | exact impl_IsDesk.mono _ _ _ _
      | exact impl_made.mono _ _ _
      | exact LeO.none _
      | refine LeO.ite ?_ ?_
      | refine LeO.bind ?_ (fun _ => ?_)

def impl_ItemsAfter.e (k : Nat) : Refl.Ent G := ⟨17, [(.agg gL1), (.c li)], .tup [(.c (.row 9 true)), (.c .bool)], fun x => impl_ItemsAfter.f k x.1 x.2.1 x.2.2.1 x.2.2.2⟩
def impl_ItemsAfter.pj0 : Refl.Pn G (Refl.PT G (impl_ItemsAfter.e 0).ol) := ⟨false, 1000001, ⟨[(1, .v (.c li)), (20, .v (.c .bool)), (2, .box 2 0), (5, .k (Value.bool false))], [(2, 27, gL2)]⟩, fun k x => impl_ItemsAfter.j0 k x.1 x.2.1 x.2.2.1 x.2.2.2.1 x.2.2.2.2⟩
theorem impl_ItemsAfter.ok (k : Nat) : Refl.EntOK Try.prog (impl_ItemsAfter.e k) := Refl.ent_ok 1000000 k GC (fun k => [impl_IsDesk.e k, impl_within.e k, impl_Desk_all.e k, impl_made.e k]) (fun k => ⟨impl_IsDesk.ok k, impl_within.ok k, impl_Desk_all.ok k, impl_made.ok k, trivial⟩) Try.func17 (by kernel_rfl) [impl_ItemsAfter.pj0] (ps := [impl_ItemsAfter.pj0]) (by kernel_rfl) ⟨⟨fun x => by kernel_rfl, fun k x => by kernel_rfl⟩, trivial⟩ (fun x => by kernel_rfl)

/-! ### impl_ItemsNow: function 12 -/

def impl_ItemsNow.f (k : Nat) (l0_0 : List ByteArray) (l0_1 : List (S38)) (l0_2 : List (S38)) : Option (List ByteArray × Bool) := (impl_ItemsAfter.f k l0_0 l0_1 l0_2 (l0_1.length : Int)).bind fun bt731 => (some (bt731.1, bt731.2))

theorem impl_ItemsNow.mono : ∀ a0 a1 a2 k, LeO (impl_ItemsNow.f k a0 a1 a2) (impl_ItemsNow.f (k + 1) a0 a1 a2) := by
  intro a0 a1 a2 k
  unfold impl_ItemsNow.f
  repeat' first
      | (with_reducible exact impl_ItemsAfter.mono _ _ _ _ _)
      | (with_reducible exact LeO.refl _)
      | (with_reducible exact LeO.none _)
      | (with_reducible refine LeO.ite ?_ ?_)
      | (with_reducible refine LeO.bind ?_ (fun _ => ?_))
      | exact impl_ItemsAfter.mono _ _ _ _ _
      | exact LeO.none _
      | refine LeO.ite ?_ ?_
      | refine LeO.bind ?_ (fun _ => ?_)

def impl_ItemsNow.e (k : Nat) : Refl.Ent G := ⟨12, [(.agg gL1)], .tup [(.c (.row 9 true)), (.c .bool)], fun x => impl_ItemsNow.f k x.1 x.2.1 x.2.2⟩
theorem impl_ItemsNow.ok (k : Nat) : Refl.EntOK Try.prog (impl_ItemsNow.e k) := Refl.ent_ok 1000000 k GC (fun k => [impl_ItemsAfter.e k]) (fun k => ⟨impl_ItemsAfter.ok k, trivial⟩) Try.func12 (by kernel_rfl) [] (ps := []) (by kernel_rfl) trivial (fun x => by kernel_rfl)

/-! ### spec_ItemsNow: function 13 -/

def spec_ItemsNow.f (k : Nat) (l0_0 : List ByteArray) (l0_1 : List (S38)) (l0_2 : List (S38)) : Option (List ByteArray × Bool) := (spec_unGood.f k l0_0 l0_1 l0_2).bind fun t736 => (if t736 = true then ((spec_unNow.f k l0_0 l0_1 l0_2).bind fun t737 => (some (t737, true))) else (some (([] : List ByteArray), false)))

theorem spec_ItemsNow.mono : ∀ a0 a1 a2 k, LeO (spec_ItemsNow.f k a0 a1 a2) (spec_ItemsNow.f (k + 1) a0 a1 a2) := by
  intro a0 a1 a2 k
  unfold spec_ItemsNow.f
  repeat' first
      | (with_reducible exact spec_unGood.mono _ _ _ _)
      | (with_reducible exact spec_unNow.mono _ _ _ _)
      | (with_reducible exact LeO.refl _)
      | (with_reducible exact LeO.none _)
      | (with_reducible refine LeO.ite ?_ ?_)
      | (with_reducible refine LeO.bind ?_ (fun _ => ?_))
      | exact spec_unGood.mono _ _ _ _
      | exact spec_unNow.mono _ _ _ _
      | exact LeO.none _
      | refine LeO.ite ?_ ?_
      | refine LeO.bind ?_ (fun _ => ?_)

def spec_ItemsNow.e (k : Nat) : Refl.Ent G := ⟨13, [(.agg gL1)], .tup [(.c (.row 9 true)), (.c .bool)], fun x => spec_ItemsNow.f k x.1 x.2.1 x.2.2⟩
theorem spec_ItemsNow.ok (k : Nat) : Refl.EntOK Try.prog (spec_ItemsNow.e k) := Refl.ent_ok 1000000 k GC (fun k => [spec_unGood.e k, spec_unNow.e k]) (fun k => ⟨spec_unGood.ok k, spec_unNow.ok k, trivial⟩) Try.func13 (by kernel_rfl) [] (ps := []) (by kernel_rfl) trivial (fun x => by kernel_rfl)

/-! ### laws_pSameTexts: function 15 -/

def laws_pSameTexts.l0 : Nat → List ByteArray → List ByteArray → Int → Int → Option (Bool)
  | 0, _, _, _, _ => none
  | k + 1, x0, x1, x12, x13 => if x13 < x12 then (if 0 ≤ x13 then (if x13 < (x0.length : Int) then (if 0 ≤ x13 then (if x13 < (x1.length : Int) then (if (rdOf ByteArray.empty x0 x13).toList = (rdOf ByteArray.empty x1 x13).toList then (laws_pSameTexts.l0 k x0 x1 x12 (wrap64 (x13 + 1))) else (some false)) else (none)) else (none)) else (none)) else (none)) else (some true)

def laws_pSameTexts.f (k : Nat) (l0 : List ByteArray) (l1 : List ByteArray) : Option (Bool) := if (l0.length : Int) = (l1.length : Int) then (laws_pSameTexts.l0 k l0 l1 (l0.length : Int) 0) else (some false)

theorem laws_pSameTexts.mono_l : ∀ k, (∀ y0 y1 y2 y3, LeO (laws_pSameTexts.l0 k y0 y1 y2 y3) (laws_pSameTexts.l0 (k + 1) y0 y1 y2 y3))
  | 0 => fun _ _ _ _ r h => by simp [laws_pSameTexts.l0] at h
  | k + 1 => by
    have ih0 := laws_pSameTexts.mono_l k
    · intro y0 y1 y2 y3
      unfold laws_pSameTexts.l0
      repeat' first
      | (with_reducible exact ih0 _ _ _ _)
      | (with_reducible exact LeO.refl _)
      | (with_reducible exact LeO.none _)
      | (with_reducible refine LeO.ite ?_ ?_)
      | (with_reducible refine LeO.bind ?_ (fun _ => ?_))
      | exact ih0 _ _ _ _
      | exact LeO.none _
      | refine LeO.ite ?_ ?_
      | refine LeO.bind ?_ (fun _ => ?_)

theorem laws_pSameTexts.mono : ∀ a0 a1 k, LeO (laws_pSameTexts.f k a0 a1) (laws_pSameTexts.f (k + 1) a0 a1) := by
  intro a0 a1 k
  have ih0 := laws_pSameTexts.mono_l k
  unfold laws_pSameTexts.f
  repeat' first
      | (with_reducible exact ih0 _ _ _ _)
      | (with_reducible exact LeO.refl _)
      | (with_reducible exact LeO.none _)
      | (with_reducible refine LeO.ite ?_ ?_)
      | (with_reducible refine LeO.bind ?_ (fun _ => ?_))
      | exact ih0 _ _ _ _
      | exact LeO.none _
      | refine LeO.ite ?_ ?_
      | refine LeO.bind ?_ (fun _ => ?_)

def laws_pSameTexts.e (k : Nat) : Refl.Ent G := ⟨15, [(.c (.row 9 false)), (.c (.row 9 false))], .one (.c .bool), fun x => laws_pSameTexts.f k x.1 x.2⟩
def laws_pSameTexts.pl0 : Refl.Pn G (Refl.PT G (laws_pSameTexts.e 0).ol) := ⟨true, 0, ⟨[(0, .v (.c (.row 9 false))), (1, .v (.c (.row 9 false))), (12, .v (.c li)), (13, .v (.c li)), (4, .k (Value.bool false))], []⟩, fun k x => laws_pSameTexts.l0 k x.1 x.2.1 x.2.2.1 x.2.2.2⟩
theorem laws_pSameTexts.ok (k : Nat) : Refl.EntOK Try.prog (laws_pSameTexts.e k) := Refl.ent_ok 1000000 k GC (fun k => []) (fun k => trivial) Try.func15 (by kernel_rfl) [laws_pSameTexts.pl0] (ps := [laws_pSameTexts.pl0]) (by kernel_rfl) ⟨⟨fun x => by kernel_rfl, fun k x => by kernel_rfl⟩, trivial⟩ (fun x => by kernel_rfl)

/-! ### laws_pSameEdits: function 61 -/

def laws_pSameEdits.l0 : Nat → List (S38) → List (S38) → Int → Int → Option (Bool)
  | 0, _, _, _, _ => none
  | k + 1, x0, x1, x12, x13 => if x13 < x12 then (if 0 ≤ x13 then (if x13 < (x0.length : Int) then (if 0 ≤ x13 then (if x13 < (x1.length : Int) then (if ((((rd_T38 x0 x13).f0) == ((rd_T38 x1 x13).f0) && (((rd_T38 x0 x13).f1) == ((rd_T38 x1 x13).f1) && ((((rd_T38 x0 x13).f2).toList) == (((rd_T38 x1 x13).f2).toList) && ((((rd_T38 x0 x13).f3).toList) == (((rd_T38 x1 x13).f3).toList))))) = true) then (laws_pSameEdits.l0 k x0 x1 x12 (wrap64 (x13 + 1))) else (some false)) else (none)) else (none)) else (none)) else (none)) else (some true)

def laws_pSameEdits.f (k : Nat) (l0 : List (S38)) (l1 : List (S38)) : Option (Bool) := if (l0.length : Int) = (l1.length : Int) then (laws_pSameEdits.l0 k l0 l1 (l0.length : Int) 0) else (some false)

theorem laws_pSameEdits.mono_l : ∀ k, (∀ y0 y1 y2 y3, LeO (laws_pSameEdits.l0 k y0 y1 y2 y3) (laws_pSameEdits.l0 (k + 1) y0 y1 y2 y3))
  | 0 => fun _ _ _ _ r h => by simp [laws_pSameEdits.l0] at h
  | k + 1 => by
    have ih0 := laws_pSameEdits.mono_l k
    · intro y0 y1 y2 y3
      unfold laws_pSameEdits.l0
      repeat' first
      | (with_reducible exact ih0 _ _ _ _)
      | (with_reducible exact LeO.refl _)
      | (with_reducible exact LeO.none _)
      | (with_reducible refine LeO.ite ?_ ?_)
      | (with_reducible refine LeO.bind ?_ (fun _ => ?_))
      | exact ih0 _ _ _ _
      | exact LeO.none _
      | refine LeO.ite ?_ ?_
      | refine LeO.bind ?_ (fun _ => ?_)

theorem laws_pSameEdits.mono : ∀ a0 a1 k, LeO (laws_pSameEdits.f k a0 a1) (laws_pSameEdits.f (k + 1) a0 a1) := by
  intro a0 a1 k
  have ih0 := laws_pSameEdits.mono_l k
  unfold laws_pSameEdits.f
  repeat' first
      | (with_reducible exact ih0 _ _ _ _)
      | (with_reducible exact LeO.refl _)
      | (with_reducible exact LeO.none _)
      | (with_reducible refine LeO.ite ?_ ?_)
      | (with_reducible refine LeO.bind ?_ (fun _ => ?_))
      | exact ih0 _ _ _ _
      | exact LeO.none _
      | refine LeO.ite ?_ ?_
      | refine LeO.bind ?_ (fun _ => ?_)

def laws_pSameEdits.e (k : Nat) : Refl.Ent G := ⟨61, [(.c (.row 38 false)), (.c (.row 38 false))], .one (.c .bool), fun x => laws_pSameEdits.f k x.1 x.2⟩
def laws_pSameEdits.pl0 : Refl.Pn G (Refl.PT G (laws_pSameEdits.e 0).ol) := ⟨true, 0, ⟨[(0, .v (.c (.row 38 false))), (1, .v (.c (.row 38 false))), (12, .v (.c li)), (13, .v (.c li)), (4, .k (Value.bool false))], []⟩, fun k x => laws_pSameEdits.l0 k x.1 x.2.1 x.2.2.1 x.2.2.2⟩
theorem laws_pSameEdits.ok (k : Nat) : Refl.EntOK Try.prog (laws_pSameEdits.e k) := Refl.ent_ok 1000000 k GC (fun k => []) (fun k => trivial) Try.func61 (by kernel_rfl) [laws_pSameEdits.pl0] (ps := [laws_pSameEdits.pl0]) (by kernel_rfl) ⟨⟨fun x => by kernel_rfl, fun k x => by kernel_rfl⟩, trivial⟩ (fun x => by kernel_rfl)

/-! ### laws_pSameDesk: function 14 -/

def laws_pSameDesk.f (k : Nat) (l0_0 : List ByteArray) (l0_1 : List (S38)) (l0_2 : List (S38)) (l1_0 : List ByteArray) (l1_1 : List (S38)) (l1_2 : List (S38)) : Option (Bool) := (laws_pSameTexts.f k l0_0 l1_0).bind fun t746 => (if t746 = true then ((laws_pSameEdits.f k l0_1 l1_1).bind fun t747 => (if t747 = true then ((laws_pSameEdits.f k l0_2 l1_2).bind fun t748 => (some t748)) else (some false))) else (some false))

theorem laws_pSameDesk.mono : ∀ a0 a1 a2 a3 a4 a5 k, LeO (laws_pSameDesk.f k a0 a1 a2 a3 a4 a5) (laws_pSameDesk.f (k + 1) a0 a1 a2 a3 a4 a5) := by
  intro a0 a1 a2 a3 a4 a5 k
  unfold laws_pSameDesk.f
  repeat' first
      | (with_reducible exact laws_pSameEdits.mono _ _ _)
      | (with_reducible exact laws_pSameTexts.mono _ _ _)
      | (with_reducible exact LeO.refl _)
      | (with_reducible exact LeO.none _)
      | (with_reducible refine LeO.ite ?_ ?_)
      | (with_reducible refine LeO.bind ?_ (fun _ => ?_))
      | exact laws_pSameEdits.mono _ _ _
      | exact laws_pSameTexts.mono _ _ _
      | exact LeO.none _
      | refine LeO.ite ?_ ?_
      | refine LeO.bind ?_ (fun _ => ?_)

def laws_pSameDesk.e (k : Nat) : Refl.Ent G := ⟨14, [(.agg gL1), (.agg gL1)], .one (.c .bool), fun x => laws_pSameDesk.f k x.1 x.2.1 x.2.2.1 x.2.2.2.1 x.2.2.2.2.1 x.2.2.2.2.2⟩
theorem laws_pSameDesk.ok (k : Nat) : Refl.EntOK Try.prog (laws_pSameDesk.e k) := Refl.ent_ok 1000000 k GC (fun k => [laws_pSameTexts.e k, laws_pSameEdits.e k]) (fun k => ⟨laws_pSameTexts.ok k, laws_pSameEdits.ok k, trivial⟩) Try.func14 (by kernel_rfl) [] (ps := []) (by kernel_rfl) trivial (fun x => by kernel_rfl)

/-! ### impl_InverseEdit: function 18 -/

def impl_InverseEdit.f (k : Nat) (a0_0 : Int) (a0_1 : Int) (a0_2 : ByteArray) (a0_3 : ByteArray) : Option (Int × Int × ByteArray × ByteArray × Bool) :=
  (impl_isDeskEdit.f k a0_0 a0_1 a0_2 a0_3).bind fun t => if t = true then (if 0 ≤ a0_0 then (if a0_0 < (3 : Int) then some (rdOf (0 : Int) [1, 0, 2] a0_0, a0_1, a0_3, a0_2, true) else none) else none) else some (0, 0, ⟨#[]⟩, ⟨#[]⟩, false)

theorem impl_InverseEdit.mono : ∀ a0 a1 a2 a3 k, LeO (impl_InverseEdit.f k a0 a1 a2 a3) (impl_InverseEdit.f (k + 1) a0 a1 a2 a3) := by
  intro a0 a1 a2 a3 k
  unfold impl_InverseEdit.f
  exact LeO.bind (impl_isDeskEdit.mono _ _ _ _ _) (fun _ => LeO.refl _)

def impl_InverseEdit.e (k : Nat) : Refl.Ent G := ⟨18, [(.agg [li, li, .str, .str])], .tup [(.agg [li, li, .str, .str]), (.c .bool)], fun x => impl_InverseEdit.f k x.1 x.2.1 x.2.2.1 x.2.2.2⟩
theorem impl_InverseEdit.ok (k : Nat) : Refl.EntOK Try.prog (impl_InverseEdit.e k) := Refl.ent_ok 1000000 k GC (fun k => [impl_isDeskEdit.e k]) (fun k => ⟨impl_isDeskEdit.ok k, trivial⟩) Try.func18 (by kernel_rfl) [] (ps := []) (by kernel_rfl) trivial (fun x => by kernel_rfl)

/-! ### spec_InverseEdit: function 19 -/

def spec_InverseEdit.f (k : Nat) (a0_0 : Int) (a0_1 : Int) (a0_2 : ByteArray) (a0_3 : ByteArray) : Option (Int × Int × ByteArray × ByteArray × Bool) := (spec_unEdit.f k a0_0 a0_1 a0_2 a0_3).bind fun t751 => (if t751 = true then (if a0_0 = 0 then (some (1, a0_1, a0_3, a0_2, true)) else (if a0_0 = 1 then (some (0, a0_1, a0_3, a0_2, true)) else (some (a0_0, a0_1, a0_3, a0_2, true)))) else (some (0, 0, (⟨#[]⟩ : ByteArray), (⟨#[]⟩ : ByteArray), false)))

theorem spec_InverseEdit.mono : ∀ a0 a1 a2 a3 k, LeO (spec_InverseEdit.f k a0 a1 a2 a3) (spec_InverseEdit.f (k + 1) a0 a1 a2 a3) := by
  intro a0 a1 a2 a3 k
  unfold spec_InverseEdit.f
  repeat' first
      | (with_reducible exact spec_unEdit.mono _ _ _ _ _)
      | (with_reducible exact LeO.refl _)
      | (with_reducible exact LeO.none _)
      | (with_reducible refine LeO.ite ?_ ?_)
      | (with_reducible refine LeO.bind ?_ (fun _ => ?_))
      | exact spec_unEdit.mono _ _ _ _ _
      | exact LeO.none _
      | refine LeO.ite ?_ ?_
      | refine LeO.bind ?_ (fun _ => ?_)

def spec_InverseEdit.e (k : Nat) : Refl.Ent G := ⟨19, [(.agg [li, li, .str, .str])], .tup [(.agg [li, li, .str, .str]), (.c .bool)], fun x => spec_InverseEdit.f k x.1 x.2.1 x.2.2.1 x.2.2.2⟩
theorem spec_InverseEdit.ok (k : Nat) : Refl.EntOK Try.prog (spec_InverseEdit.e k) := Refl.ent_ok 1000000 k GC (fun k => [spec_unEdit.e k]) (fun k => ⟨spec_unEdit.ok k, trivial⟩) Try.func19 (by kernel_rfl) [] (ps := []) (by kernel_rfl) trivial (fun x => by kernel_rfl)

/-! ### spec_l1Cur_itemPlace: function 69 -/

def spec_l1Cur_itemPlace.f (s0_0 : List Int) (s0_1 : Int) (s0_2 : Int) : Option (Int × List Int × Int × Int) := (spec_l1Cur_pick.f s0_0 s0_1 s0_2 6).bind fun bt752 => ((spec_l1Cur_among.f bt752.2.1 bt752.2.2.1 bt752.2.2.2 (([20, (-1), 21] : List Int))).bind fun bt759 => ((spec_l1Cur_among.f bt759.2.1 bt759.2.2.1 bt759.2.2.2 (([0, 1, 2, bt752.1, bt759.1] : List Int))).bind fun bt766 => (some (bt766.1, bt766.2.1, bt766.2.2.1, bt766.2.2.2))))

def spec_l1Cur_itemPlace.e (k : Nat) : Refl.Ent G := ⟨69, [(.wr 1000000 82 gL4)], .one (.c li), fun x => spec_l1Cur_itemPlace.f x.1 x.2.1 x.2.2⟩
theorem spec_l1Cur_itemPlace.ok (k : Nat) : Refl.EntOK Try.prog (spec_l1Cur_itemPlace.e k) := Refl.ent_ok 1000000 k GC (fun k => [spec_l1Cur_pick.e k, spec_l1Cur_among.e k]) (fun k => ⟨spec_l1Cur_pick.ok k, spec_l1Cur_among.ok k, trivial⟩) Try.func69 (by kernel_rfl) [] (ps := []) (by kernel_rfl) trivial (fun x => by kernel_rfl)

/-! ### spec_DrawInsertItem: function 20 -/

def spec_DrawInsertItem.f (k : Nat) (l0 : List Int) : Option (List ByteArray × (List (S38)) × (List (S38)) × Int × ByteArray) := (spec_l1Cur_desk.f k l0 0 0).bind fun bt772 => ((spec_l1Cur_itemPlace.f bt772.2.2.2.1 bt772.2.2.2.2.1 bt772.2.2.2.2.2).bind fun bt784 => ((spec_l1Cur_anyGloss.f bt784.2.1 bt784.2.2.1 bt784.2.2.2).bind fun bt788 => (some (bt772.1, bt772.2.1, bt772.2.2.1, bt784.1, bt788.1))))

theorem spec_DrawInsertItem.mono : ∀ a0 k, LeO (spec_DrawInsertItem.f k a0) (spec_DrawInsertItem.f (k + 1) a0) := by
  intro a0 k
  unfold spec_DrawInsertItem.f
  repeat' first
      | (with_reducible exact spec_l1Cur_desk.mono _ _ _ _)
      | (with_reducible exact LeO.refl _)
      | (with_reducible exact LeO.none _)
      | (with_reducible refine LeO.ite ?_ ?_)
      | (with_reducible refine LeO.bind ?_ (fun _ => ?_))
      | exact spec_l1Cur_desk.mono _ _ _ _
      | exact LeO.none _
      | refine LeO.ite ?_ ?_
      | refine LeO.bind ?_ (fun _ => ?_)

def spec_DrawInsertItem.e (k : Nat) : Refl.Ent G := ⟨20, [(.c (.row 5 false))], .tup [(.agg gL1), (.c li), (.c .str)], fun x => spec_DrawInsertItem.f k x⟩
theorem spec_DrawInsertItem.ok (k : Nat) : Refl.EntOK Try.prog (spec_DrawInsertItem.e k) := Refl.ent_ok 1000000 k GC (fun k => [spec_l1Cur_desk.e k, spec_l1Cur_itemPlace.e k, spec_l1Cur_anyGloss.e k]) (fun k => ⟨spec_l1Cur_desk.ok k, spec_l1Cur_itemPlace.ok k, spec_l1Cur_anyGloss.ok k, trivial⟩) Try.func20 (by kernel_rfl) [] (ps := []) (by kernel_rfl) trivial (fun x => by kernel_rfl)

/-! ### impl_InsertItem: function 21 -/

def ins1.f (l : List ByteArray) (a1 : Int) (a2 : ByteArray) : Option (Int × Int × ByteArray × ByteArray) := some (0, a1, a2, (⟨#[]⟩ : ByteArray))

def ins2.f (k : Nat) (l0_0 : List ByteArray) (l0_1 l0_2 : List S38) (a1 : Int) (a2 : ByteArray) : Option (List ByteArray × List S38 × List S38 × Bool) := (impl_ItemsNow.f k l0_0 l0_1 l0_2).bind fun bt => if bt.2 = true then (if (l0_1.length : Int) = 30 then some (([] : List ByteArray), ([] : List S38), ([] : List S38), false) else (slices_Clone_string_string.f l0_0).bind fun s => (impl_DeskEdit_57.f l0_1).bind fun d => (ins1.f bt.1 a1 a2).bind fun e => if d.length < 2932031007402 then ((impl_IsDesk.f k s (d ++ [(⟨e.1, e.2.1, e.2.2.1, e.2.2.2⟩ : S38)]) ([] : List S38)).bind fun t => if t = true then some (s, d ++ [(⟨e.1, e.2.1, e.2.2.1, e.2.2.2⟩ : S38)], ([] : List S38), true) else some (([] : List ByteArray), ([] : List S38), ([] : List S38), false)) else none) else some (([] : List ByteArray), ([] : List S38), ([] : List S38), false)

def impl_InsertItem.f (k : Nat) (l0_0 : List ByteArray) (l0_1 l0_2 : List S38) (a1 : Int) (a2 : ByteArray) : Option (List ByteArray × List S38 × List S38 × Bool) := (ins2.f k l0_0 l0_1 l0_2 a1 a2).bind fun b => some (b.1, b.2.1, b.2.2.1, b.2.2.2)

theorem ins2.mono : ∀ l0 l1 l2 a1 a2 k, LeO (ins2.f k l0 l1 l2 a1 a2) (ins2.f (k + 1) l0 l1 l2 a1 a2) := by
  intro l0 l1 l2 a1 a2 k
  unfold ins2.f
  repeat' first
  | (with_reducible exact impl_ItemsNow.mono _ _ _ _)
  | (with_reducible exact impl_IsDesk.mono _ _ _ _)
  | exact LeO.refl _
  | exact LeO.none _
  | refine LeO.ite ?_ ?_
  | refine LeO.bind ?_ (fun _ => ?_)

theorem impl_InsertItem.mono : ∀ l0 l1 l2 a1 a2 k, LeO (impl_InsertItem.f k l0 l1 l2 a1 a2) (impl_InsertItem.f (k + 1) l0 l1 l2 a1 a2) := fun l0 l1 l2 a1 a2 k => LeO.bind (ins2.mono l0 l1 l2 a1 a2 k) (fun _ => LeO.refl _)

def impl_InsertItem.e (k : Nat) : Refl.Ent G := ⟨21, [(.agg gL1), (.c li), (.c .str)], .tup [(.agg gL3), (.c .bool)], fun x => impl_InsertItem.f k x.1 x.2.1 x.2.2.1 x.2.2.2.1 x.2.2.2.2⟩
def ins1.e (k : Nat) : Refl.Ent G := ⟨72, [.c (.row 9 false), .ref [li], .ref [.str]], .one (.agg [li, li, .str, .str]), fun x => ins1.f x.1 x.2.1 x.2.2⟩
theorem ins1.ok (k : Nat) : Refl.EntOK Try.prog (ins1.e k) := Refl.ent_ok 1000000 k GC (fun k => []) (fun k => trivial) Try.func72 (by kernel_rfl) [] (ps := []) (by kernel_rfl) trivial (fun x => by kernel_rfl)
def ins2.e (k : Nat) : Refl.Ent G := ⟨71, [.agg [.row 9 false, .row 38 false, .row 38 false], .clo 72 [[li], [.str]]], .tup [.agg [.row 9 true, .row 38 true, .row 38 true], .c .bool], fun x => ins2.f k x.1 x.2.1 x.2.2.1 x.2.2.2.1 x.2.2.2.2⟩
theorem ins2.ok (k : Nat) : Refl.EntOK Try.prog (ins2.e k) := Refl.ent_ok 1000000 k GC (fun k => [impl_ItemsNow.e k, slices_Clone_string_string.e k, impl_DeskEdit_57.e k, ins1.e k, impl_IsDesk.e k]) (fun k => ⟨impl_ItemsNow.ok k, slices_Clone_string_string.ok k, impl_DeskEdit_57.ok k, ins1.ok k, impl_IsDesk.ok k, trivial⟩) Try.func71 (by kernel_rfl) [] (ps := []) (by kernel_rfl) trivial (fun x => by kernel_rfl)
theorem impl_InsertItem.ok (k : Nat) : Refl.EntOK Try.prog (impl_InsertItem.e k) := Refl.ent_ok 1000000 k GC (fun k => [ins2.e k]) (fun k => ⟨ins2.ok k, trivial⟩) Try.func21 (by kernel_rfl) [] (ps := []) (by kernel_rfl) trivial (fun x => by kernel_rfl)

end Go.Proofs.Ytgpkeclojbcgoaa.PA
