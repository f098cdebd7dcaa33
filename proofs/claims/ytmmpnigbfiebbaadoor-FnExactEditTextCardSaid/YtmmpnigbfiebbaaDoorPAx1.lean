-- Written by a program of this session (wip/tools/myprint.py). Not trusted: Lean checks it.
import Derived.Test.YtmmpnigbfiebbaaDoorPAx0
namespace Go.Proofs.YtmmpnigbfiebbaaDoor.PA
open Go.RowKit Go.Proofs.YtmmpnigbfiebbaaDoorW.PrintWords Go.Proofs.YtmmpnigbfiebbaaDoorW.PrintLast Go.Proofs.YtmmpnigbfiebbaaDoorW.PrintMore
attribute [local go_sem] max2_int min2_int max_two min_two max_three min_three max_four min_four   -- for this text's walks alone
set_option linter.unusedVariables false
set_option linter.unusedSimpArgs false

/-! ### laws_szDeskEdit: function 4 -/
def laws_szDeskEdit.f (a0_0 : Int) (a0_1 : Int) (a0_2 : ByteArray) (a0_3 : ByteArray) (a1 : Int) : Option (Int) := if (wrap64 (a1 - (a0_2.size : Int))) < 0 then (some (-1)) else (if (wrap64 ((wrap64 (a1 - (a0_2.size : Int))) - (a0_3.size : Int))) < 0 then (some (-1)) else (some (wrap64 ((wrap64 (a1 - (a0_2.size : Int))) - (a0_3.size : Int)))))
set_option maxHeartbeats 8000000 in
set_option maxRecDepth 100000 in
theorem laws_szDeskEdit.calls (a0_0 : Int) (a0_1 : Int) (a0_2 : ByteArray) (a0_3 : ByteArray) (a1 : Int) (r : Int) (w : World) (h : laws_szDeskEdit.f a0_0 a0_1 a0_2 a0_3 a1 = some r) :
  Calls Tryd.prog 4 #[.agg #[.int .i64 a0_0, .int .i64 a0_1, .string a0_2, .string a0_3], .int .i64 a1] w fun e w' => e = .returned (.int .i64 r) ∧ Below w.heap.size w w' := by
 have hu23 := Tryd.underlying23
 have HB := Aside0.mk (Below.refl w.heap.size w)
 have H : (if (wrap64 (a1 - (a0_2.size : Int))) < 0 then (some (-1)) else (if (wrap64 ((wrap64 (a1 - (a0_2.size : Int))) - (a0_3.size : Int))) < 0 then (some (-1)) else (some (wrap64 ((wrap64 (a1 - (a0_2.size : Int))) - (a0_3.size : Int)))))) = some r := h
 clear h
 by_cases c3 : (wrap64 (a1 - (a0_2.size : Int))) < 0
 ·rw [if_pos c3] at H
  have c3b0 : decide ((wrap64 (a1 - (a0_2.size : Int))) < 0) = true := decide_eq_true c3
  clear c3
  obtain rfl := Option.some.inj H
  go_enter Tryd.func4, Tryd.ntmps4
  go_wp2_with (first | ((with_reducible refine gate_dst (N := 2) rfl ?_); refine box_event ?hg (N := 2) ?hd (cs := #[.int .i64 a0_0, .int .i64 a0_1, .string a0_2, .string a0_3]) (t := 23) ?hr ?_; (case hd => rfl); (case hg => rfl); (case hr => first | (go_simp; done) | (go_simp; rfl)); intro gb101 hg w4 hbox hb; have n0_ := Aside0.mk (bt_ HB hb); have n1_ := Aside0.mk (hbox); have n2_ := gz_ hg HB; have n3_ := gz_ hg HB; clear HB; have HB := n0_; have BK101 := n1_; have GW101 := n2_; have GE101 := n3_; clear n0_ n1_ n2_ n3_; clear hb hbox hg; have hcz5_0 := cz0_ BK101; have hcz5_1 := cz1_ BK101; have hcz5_2 := cz2_ BK101; have hcz5_3 := cz3_ BK101; have hfz5_0 := fz_ BK101 0; have hfz5_1 := fz_ BK101 1; have hfz5_2 := fz_ BK101 2; have hfz5_3 := fz_ BK101 3))
  go_ret
  exact ⟨by first | rfl | (simp [errW_none, errW_some] <;> rfl) | (simp [*, errW_none, errW_some] <;> rfl), bb1_ HB GE101⟩
 ·rw [if_neg c3] at H
  have c3b0 : decide ((wrap64 (a1 - (a0_2.size : Int))) < 0) = false := decide_eq_false c3
  clear c3
  by_cases c6 : (wrap64 ((wrap64 (a1 - (a0_2.size : Int))) - (a0_3.size : Int))) < 0
  ·rw [if_pos c6] at H
   have c6b0 : decide ((wrap64 ((wrap64 (a1 - (a0_2.size : Int))) - (a0_3.size : Int))) < 0) = true := decide_eq_true c6
   clear c6
   obtain rfl := Option.some.inj H
   go_enter Tryd.func4, Tryd.ntmps4
   go_wp2_with (first | ((with_reducible refine gate_dst (N := 2) rfl ?_); refine box_event ?hg (N := 2) ?hd (cs := #[.int .i64 a0_0, .int .i64 a0_1, .string a0_2, .string a0_3]) (t := 23) ?hr ?_; (case hd => rfl); (case hg => rfl); (case hr => first | (go_simp; done) | (go_simp; rfl)); intro gb101 hg w7 hbox hb; have n0_ := Aside0.mk (bt_ HB hb); have n1_ := Aside0.mk (hbox); have n2_ := gz_ hg HB; have n3_ := gz_ hg HB; clear HB; have HB := n0_; have BK101 := n1_; have GW101 := n2_; have GE101 := n3_; clear n0_ n1_ n2_ n3_; clear hb hbox hg; have hcz8_0 := cz0_ BK101; have hcz8_1 := cz1_ BK101; have hcz8_2 := cz2_ BK101; have hcz8_3 := cz3_ BK101; have hfz8_0 := fz_ BK101 0; have hfz8_1 := fz_ BK101 1; have hfz8_2 := fz_ BK101 2; have hfz8_3 := fz_ BK101 3))
   go_ret
   exact ⟨by first | rfl | (simp [errW_none, errW_some] <;> rfl) | (simp [*, errW_none, errW_some] <;> rfl), bb1_ HB GE101⟩
  ·rw [if_neg c6] at H
   have c6b0 : decide ((wrap64 ((wrap64 (a1 - (a0_2.size : Int))) - (a0_3.size : Int))) < 0) = false := decide_eq_false c6
   clear c6
   obtain rfl := Option.some.inj H
   go_enter Tryd.func4, Tryd.ntmps4
   go_wp2_with (first | ((with_reducible refine gate_dst (N := 2) rfl ?_); refine box_event ?hg (N := 2) ?hd (cs := #[.int .i64 a0_0, .int .i64 a0_1, .string a0_2, .string a0_3]) (t := 23) ?hr ?_; (case hd => rfl); (case hg => rfl); (case hr => first | (go_simp; done) | (go_simp; rfl)); intro gb101 hg w9 hbox hb; have n0_ := Aside0.mk (bt_ HB hb); have n1_ := Aside0.mk (hbox); have n2_ := gz_ hg HB; have n3_ := gz_ hg HB; clear HB; have HB := n0_; have BK101 := n1_; have GW101 := n2_; have GE101 := n3_; clear n0_ n1_ n2_ n3_; clear hb hbox hg; have hcz10_0 := cz0_ BK101; have hcz10_1 := cz1_ BK101; have hcz10_2 := cz2_ BK101; have hcz10_3 := cz3_ BK101; have hfz10_0 := fz_ BK101 0; have hfz10_1 := fz_ BK101 1; have hfz10_2 := fz_ BK101 2; have hfz10_3 := fz_ BK101 3))
   go_ret
   exact ⟨by first | rfl | (simp [errW_none, errW_some] <;> rfl) | (simp [*, errW_none, errW_some] <;> rfl), bb1_ HB GE101⟩

/-! ### spec_l1In: function 12 -/
def spec_l1In.f (a0 : Int) (a1 : Int) (a2 : Int) : Option (Bool) := if a0 ≥ a1 then (some (decide (a0 ≤ a2))) else (some false)
set_option maxHeartbeats 8000000 in
set_option maxRecDepth 100000 in
theorem spec_l1In.calls (a0 : Int) (a1 : Int) (a2 : Int) (r : Bool) (w : World) (h : spec_l1In.f a0 a1 a2 = some r) :
  Calls Tryd.prog 12 #[.int .i64 a0, .int .i64 a1, .int .i64 a2] w fun e w' => e = .returned (.bool r) ∧ Drawn0 w w' := by
 have H : (if a0 ≥ a1 then (some (decide (a0 ≤ a2))) else (some false)) = some r := h
 clear h
 by_cases c4 : a0 ≥ a1
 ·rw [if_pos c4] at H
  have c4b0 : decide (a1 ≤ a0) = true := decide_eq_true c4
  clear c4
  obtain rfl := Option.some.inj H
  go_enter Tryd.func12, Tryd.ntmps12
  go_wp2
  go_ret
  exact ⟨by first | rfl | (simp; done) | (simp [*]; done), by repeat (first | exact Drawn0.refl _ | apply Drawn0.step)⟩
 ·rw [if_neg c4] at H
  have c4b0 : decide (a1 ≤ a0) = false := decide_eq_false c4
  clear c4
  obtain rfl := Option.some.inj H
  go_enter Tryd.func12, Tryd.ntmps12
  go_wp2
  go_ret
  exact ⟨by first | rfl | (simp; done) | (simp [*]; done), by repeat (first | exact Drawn0.refl _ | apply Drawn0.step)⟩

/-! ### spec_enGloss: function 13 -/
def spec_enGloss.l0 : Nat → ByteArray → Int → Option (Bool)
 | 0, _, _ => none
 | k + 1, x0, x3 => if x3 < (x0.size : Int) then (if 0 ≤ x3 then (if (bt x0 x3) < 65 then (some false) else (if (bt x0 x3) > 90 then (some false) else (spec_enGloss.l0 k x0 (wrap64 (x3 + 1))))) else (none)) else ((spec_l1In.f (x0.size : Int) 1 8).bind fun t102 => (some t102))
def spec_enGloss.f (k : Nat) (a0 : ByteArray) : Option (Bool) := spec_enGloss.l0 k a0 0
theorem spec_enGloss.mono_l : ∀ k, (∀ y0 y1, LeO (spec_enGloss.l0 k y0 y1) (spec_enGloss.l0 (k + 1) y0 y1))
 | 0 => fun _ _ r h => by simp [spec_enGloss.l0] at h
 | k + 1 => by
  have ih0 := spec_enGloss.mono_l k
  ·intro y0 y1
   unfold spec_enGloss.l0
   repeat' first
   | (with_reducible exact ih0 _ _)
   | (with_reducible exact LeO.refl _)
   | (with_reducible exact LeO.none _)
   | (with_reducible refine LeO.ite ?_ ?_)
   | (with_reducible refine LeO.bind ?_ (fun _ => ?_))
   | exact ih0 _ _
   | exact LeO.none _
   | refine LeO.ite ?_ ?_
   | refine LeO.bind ?_ (fun _ => ?_)
theorem spec_enGloss.mono : ∀ a0 k, LeO (spec_enGloss.f k a0) (spec_enGloss.f (k + 1) a0) := by
 intro a0 k
 have ih0 := spec_enGloss.mono_l k
 unfold spec_enGloss.f
 repeat' first
   | (with_reducible exact ih0 _ _)
   | (with_reducible exact LeO.refl _)
   | (with_reducible exact LeO.none _)
   | (with_reducible refine LeO.ite ?_ ?_)
   | (with_reducible refine LeO.bind ?_ (fun _ => ?_))
   | exact ih0 _ _
   | exact LeO.none _
   | refine LeO.ite ?_ ?_
   | refine LeO.bind ?_ (fun _ => ?_)
set_option maxHeartbeats 8000000 in
set_option maxRecDepth 100000 in
theorem spec_enGloss.calls (k : Nat) (a0 : ByteArray) (r : Bool) (w : World) (h : spec_enGloss.f k a0 = some r) :
  Calls Tryd.prog 13 #[.string a0] w fun e w' => e = .returned (.bool r) ∧ Drawn0 w w' := by
 have H : (spec_enGloss.l0 k a0 0) = some r := h
 clear h
 have H' := Aside0.mk H
 clear H
 go_enter Tryd.func13, Tryd.ntmps13
 go_wp2
 go_loopg [3] k (fun kq v3 w' => ∃ (x3_1 : Int), v3 = .int .i64 x3_1 ∧ Aside0 (spec_enGloss.l0 kq a0 x3_1 = some r) ∧ Aside0 (kq ≤ k) ∧ Drawn0 w w')
 case atStart => exact ⟨(0), (by first | rfl | (simp; done) | (simp [*]; done)), H', ⟨Nat.le_refl _⟩, by repeat (first | exact Drawn0.refl _ | apply Drawn0.step)⟩
 case round =>
  clear H'
  try clear c1
  obtain ⟨x3_1, rfl, HA, HK1, ⟨m1, rfl⟩⟩ := hrel
  cases gk with
  | zero => exact absurd HA.out (by simp [spec_enGloss.l0])
  | succ k1 =>
   have H := HA.out
   clear HA
   simp only [spec_enGloss.l0] at H
   by_cases c2 : x3_1 < (a0.size : Int)
   ·rw [if_pos c2] at H
    have c2b0 : decide (x3_1 < (a0.size : Int)) = true := decide_eq_true c2
    clear c2
    by_cases c3 : 0 ≤ x3_1
    ·rw [if_pos c3] at H
     have c3b0 : decide (0 ≤ x3_1) = true := decide_eq_true c3
     clear c3
     by_cases c5 : (bt a0 x3_1) < 65
     ·rw [if_pos c5] at H
      have c5b0 : decide ((bt a0 x3_1) < 65) = true := decide_eq_true c5
      clear c5
      obtain rfl := Option.some.inj H
      have p4 : 0 ≤ (x3_1 : Int) := of_decide_eq_true as_
      have q4 : x3_1 < (a0.size : Int) := of_decide_eq_true as_
      have hx4 := bt_at a0 x3_1
      replace p4 := eq_true p4
      replace q4 := eq_true q4
      go_wp2
      go_ret
      exact ⟨by first | rfl | (simp; done) | (simp [*]; done), by repeat (first | exact Drawn0.refl _ | apply Drawn0.step)⟩
     ·rw [if_neg c5] at H
      have c5b0 : decide ((bt a0 x3_1) < 65) = false := decide_eq_false c5
      clear c5
      by_cases c7 : (bt a0 x3_1) > 90
      ·rw [if_pos c7] at H
       have c7b0 : decide (90 < (bt a0 x3_1)) = true := decide_eq_true c7
       clear c7
       obtain rfl := Option.some.inj H
       have p4 : 0 ≤ (x3_1 : Int) := of_decide_eq_true as_
       have q4 : x3_1 < (a0.size : Int) := of_decide_eq_true as_
       have hx4 := bt_at a0 x3_1
       replace p4 := eq_true p4
       replace q4 := eq_true q4
       have p6 : 0 ≤ (x3_1 : Int) := of_decide_eq_true as_
       have q6 : x3_1 < (a0.size : Int) := of_decide_eq_true as_
       have hx6 := bt_at a0 x3_1
       replace p6 := eq_true p6
       replace q6 := eq_true q6
       go_wp2
       go_ret
       exact ⟨by first | rfl | (simp; done) | (simp [*]; done), by repeat (first | exact Drawn0.refl _ | apply Drawn0.step)⟩
      ·rw [if_neg c7] at H
       have c7b0 : decide (90 < (bt a0 x3_1)) = false := decide_eq_false c7
       clear c7
       have H' := Aside0.mk H
       clear H
       have p4 : 0 ≤ (x3_1 : Int) := of_decide_eq_true as_
       have q4 : x3_1 < (a0.size : Int) := of_decide_eq_true as_
       have hx4 := bt_at a0 x3_1
       replace p4 := eq_true p4
       replace q4 := eq_true q4
       have p6 : 0 ≤ (x3_1 : Int) := of_decide_eq_true as_
       have q6 : x3_1 < (a0.size : Int) := of_decide_eq_true as_
       have hx6 := bt_at a0 x3_1
       replace p6 := eq_true p6
       replace q6 := eq_true q6
       go_wp2
       go_roundg k1
       case measure => have := HK1.out; omega
       case rel => exact ⟨(wrap64 (x3_1 + 1)), (by first | rfl | (simp; done) | (simp [*]; done)), H', ⟨by have := HK1.out; omega⟩, by repeat (first | exact Drawn0.refl _ | apply Drawn0.step)⟩
    ·rw [if_neg c3] at H
     exact absurd H (by simp)
   ·rw [if_neg c2] at H
    have c2b0 : decide (x3_1 < (a0.size : Int)) = false := decide_eq_false c2
    clear c2
    replace H := Option.bind_eq_some_iff.mp H
    obtain ⟨t102, A80, H⟩ := H
    try dsimp only at H
    have A8 := Aside0.mk A80
    clear A80
    obtain rfl := Option.some.inj H
    go_wp2_with (first | ((with_reducible refine gate_callee (f := 12) rfl ?_); refine goesL_ (some 22) rfl rfl Tryd.func12 (by kernel_rfl) rfl #[.int .i64 (a0.size : Int), .int .i64 1, .int .i64 8] rfl args_ ?_; (with_reducible refine (spec_l1In.calls (a0.size : Int) 1 8 t102 _ A8.out).mono ?_); rintro e w' ⟨rfl, ⟨nd, rfl⟩⟩; refine ⟨_, rfl, ?_⟩))
    go_ret
    exact ⟨by first | rfl | (simp; done) | (simp [*]; done), by repeat (first | exact Drawn0.refl _ | apply Drawn0.step)⟩

/-! ### spec_unEdit: function 8 -/
def spec_unEdit.f (k : Nat) (a0_0 : Int) (a0_1 : Int) (a0_2 : ByteArray) (a0_3 : ByteArray) : Option (Bool) := (spec_l1In.f a0_1 0 20).bind fun t104 => (if t104 = true then (if a0_0 = 0 then ((spec_enGloss.f k a0_2).bind fun t105 => (if t105 = true then (some (a0_3.toList == ([] : List UInt8))) else (some false))) else (if a0_0 = 1 then (if a0_2.toList = ([] : List UInt8) then ((spec_enGloss.f k a0_3).bind fun t106 => (some t106)) else (some false)) else (if a0_0 = 2 then ((spec_enGloss.f k a0_2).bind fun t107 => (if t107 = true then ((spec_enGloss.f k a0_3).bind fun t108 => (if t108 = true then (some (a0_2.toList != a0_3.toList)) else (some false))) else (some false))) else (some false)))) else (some false))
theorem spec_unEdit.mono : ∀ a0 a1 a2 a3 k, LeO (spec_unEdit.f k a0 a1 a2 a3) (spec_unEdit.f (k + 1) a0 a1 a2 a3) := by
 intro a0 a1 a2 a3 k
 unfold spec_unEdit.f
 repeat' first
   | (with_reducible exact spec_enGloss.mono _ _)
   | (with_reducible exact LeO.refl _)
   | (with_reducible exact LeO.none _)
   | (with_reducible refine LeO.ite ?_ ?_)
   | (with_reducible refine LeO.bind ?_ (fun _ => ?_))
   | exact LeO.none _
   | refine LeO.ite ?_ ?_
   | refine LeO.bind ?_ (fun _ => ?_)
set_option maxHeartbeats 8000000 in
set_option maxRecDepth 100000 in
theorem spec_unEdit.calls (k : Nat) (a0_0 : Int) (a0_1 : Int) (a0_2 : ByteArray) (a0_3 : ByteArray) (r : Bool) (w : World) (h : spec_unEdit.f k a0_0 a0_1 a0_2 a0_3 = some r) :
  Calls Tryd.prog 8 #[.agg #[.int .i64 a0_0, .int .i64 a0_1, .string a0_2, .string a0_3]] w fun e w' => e = .returned (.bool r) ∧ Below w.heap.size w w' := by
 have hu27 := Tryd.underlying27
 have HB := Aside0.mk (Below.refl w.heap.size w)
 have H : ((spec_l1In.f a0_1 0 20).bind fun t104 => (if t104 = true then (if a0_0 = 0 then ((spec_enGloss.f k a0_2).bind fun t105 => (if t105 = true then (some (a0_3.toList == ([] : List UInt8))) else (some false))) else (if a0_0 = 1 then (if a0_2.toList = ([] : List UInt8) then ((spec_enGloss.f k a0_3).bind fun t106 => (some t106)) else (some false)) else (if a0_0 = 2 then ((spec_enGloss.f k a0_2).bind fun t107 => (if t107 = true then ((spec_enGloss.f k a0_3).bind fun t108 => (if t108 = true then (some (a0_2.toList != a0_3.toList)) else (some false))) else (some false))) else (some false)))) else (some false))) = some r := h
 clear h
 replace H := Option.bind_eq_some_iff.mp H
 obtain ⟨t104, A20, H⟩ := H
 try dsimp only at H
 have A2 := Aside0.mk A20
 clear A20
 by_cases c3 : t104 = true
 ·subst c3
  have H1 : (if a0_0 = 0 then ((spec_enGloss.f k a0_2).bind fun t105 => (if t105 = true then (some (a0_3.toList == ([] : List UInt8))) else (some false))) else (if a0_0 = 1 then (if a0_2.toList = ([] : List UInt8) then ((spec_enGloss.f k a0_3).bind fun t106 => (some t106)) else (some false)) else (if a0_0 = 2 then ((spec_enGloss.f k a0_2).bind fun t107 => (if t107 = true then ((spec_enGloss.f k a0_3).bind fun t108 => (if t108 = true then (some (a0_2.toList != a0_3.toList)) else (some false))) else (some false))) else (some false)))) = some r := by rw [if_pos rfl] at H; exact H
  clear H
  have H := H1
  clear H1
  by_cases c4 : a0_0 = 0
  ·rw [if_pos c4] at H
   have c4b0 : (a0_0 == 0) = true := beq_iff_eq.mpr c4
   have c4b1 : (a0_0 != 0) = false := bne_eq_false_iff_eq.mpr c4
   clear c4
   replace H := Option.bind_eq_some_iff.mp H
   obtain ⟨t105, A50, H⟩ := H
   try dsimp only at H
   have A5 := Aside0.mk A50
   clear A50
   by_cases c6 : t105 = true
   ·subst c6
    have H1 : (some (a0_3.toList == ([] : List UInt8))) = some r := by rw [if_pos rfl] at H; exact H
    clear H
    have H := H1
    clear H1
    obtain rfl := Option.some.inj H
    go_enter Tryd.func8, Tryd.ntmps8
    go_wp2_with (first | ((with_reducible refine gate_dst (N := 1) rfl ?_); refine box_event ?hg (N := 1) ?hd (cs := #[.int .i64 a0_0, .int .i64 a0_1, .string a0_2, .string a0_3]) (t := 27) ?hr ?_; (case hd => rfl); (case hg => rfl); (case hr => first | (go_simp; done) | (go_simp; rfl)); intro gb103 hg w7 hbox hb; have n0_ := Aside0.mk (bt_ HB hb); have n1_ := Aside0.mk (hbox); have n2_ := gz_ hg HB; have n3_ := gz_ hg HB; clear HB; have HB := n0_; have BK103 := n1_; have GW103 := n2_; have GE103 := n3_; clear n0_ n1_ n2_ n3_; clear hb hbox hg; have hcz8_0 := cz0_ BK103; have hcz8_1 := cz1_ BK103; have hcz8_2 := cz2_ BK103; have hcz8_3 := cz3_ BK103; have hfz8_0 := fz_ BK103 0; have hfz8_1 := fz_ BK103 1; have hfz8_2 := fz_ BK103 2; have hfz8_3 := fz_ BK103 3) | ((with_reducible refine gate_callee (f := 12) rfl ?_); refine goesL_ (some 5) rfl rfl Tryd.func12 (by kernel_rfl) rfl #[.int .i64 a0_1, .int .i64 0, .int .i64 20] rfl args_ ?_; (with_reducible refine (spec_l1In.calls a0_1 0 20 true _ A2.out).mono ?_); rintro e w' ⟨rfl, ⟨nd, rfl⟩⟩; refine ⟨_, rfl, ?_⟩) | ((with_reducible refine gate_callee (f := 13) rfl ?_); refine goesL_ (some 13) rfl rfl Tryd.func13 (by kernel_rfl) rfl #[.string a0_2] rfl args_ ?_; (with_reducible refine (spec_enGloss.calls k a0_2 true _ A5.out).mono ?_); rintro e w' ⟨rfl, ⟨nd, rfl⟩⟩; refine ⟨_, rfl, ?_⟩))
    go_ret
    exact ⟨by first | rfl | (simp [errW_none, errW_some] <;> rfl) | (simp [*, errW_none, errW_some] <;> rfl), bb1_ HB GE103⟩
   ·replace c6 := Bool.eq_false_iff.mpr c6
    subst c6
    have H1 : (some false) = some r := by rw [if_neg (show ¬ (false = true) by decide)] at H; exact H
    clear H
    have H := H1
    clear H1
    obtain rfl := Option.some.inj H
    go_enter Tryd.func8, Tryd.ntmps8
    go_wp2_with (first | ((with_reducible refine gate_dst (N := 1) rfl ?_); refine box_event ?hg (N := 1) ?hd (cs := #[.int .i64 a0_0, .int .i64 a0_1, .string a0_2, .string a0_3]) (t := 27) ?hr ?_; (case hd => rfl); (case hg => rfl); (case hr => first | (go_simp; done) | (go_simp; rfl)); intro gb103 hg w9 hbox hb; have n0_ := Aside0.mk (bt_ HB hb); have n1_ := Aside0.mk (hbox); have n2_ := gz_ hg HB; have n3_ := gz_ hg HB; clear HB; have HB := n0_; have BK103 := n1_; have GW103 := n2_; have GE103 := n3_; clear n0_ n1_ n2_ n3_; clear hb hbox hg; have hcz10_0 := cz0_ BK103; have hcz10_1 := cz1_ BK103; have hcz10_2 := cz2_ BK103; have hcz10_3 := cz3_ BK103; have hfz10_0 := fz_ BK103 0; have hfz10_1 := fz_ BK103 1; have hfz10_2 := fz_ BK103 2; have hfz10_3 := fz_ BK103 3) | ((with_reducible refine gate_callee (f := 12) rfl ?_); refine goesL_ (some 5) rfl rfl Tryd.func12 (by kernel_rfl) rfl #[.int .i64 a0_1, .int .i64 0, .int .i64 20] rfl args_ ?_; (with_reducible refine (spec_l1In.calls a0_1 0 20 true _ A2.out).mono ?_); rintro e w' ⟨rfl, ⟨nd, rfl⟩⟩; refine ⟨_, rfl, ?_⟩) | ((with_reducible refine gate_callee (f := 13) rfl ?_); refine goesL_ (some 13) rfl rfl Tryd.func13 (by kernel_rfl) rfl #[.string a0_2] rfl args_ ?_; (with_reducible refine (spec_enGloss.calls k a0_2 false _ A5.out).mono ?_); rintro e w' ⟨rfl, ⟨nd, rfl⟩⟩; refine ⟨_, rfl, ?_⟩))
    go_ret
    exact ⟨by first | rfl | (simp [errW_none, errW_some] <;> rfl) | (simp [*, errW_none, errW_some] <;> rfl), bb1_ HB GE103⟩
  ·rw [if_neg c4] at H
   have c4b0 : (a0_0 == 0) = false := beq_eq_false_iff_ne.mpr c4
   have c4b1 : (a0_0 != 0) = true := bne_iff_ne.mpr c4
   by_cases c11 : a0_0 = 1
   ·rw [if_pos c11] at H
    have c11b0 : (a0_0 == 1) = true := beq_iff_eq.mpr c11
    have c11b1 : (a0_0 != 1) = false := bne_eq_false_iff_eq.mpr c11
    clear c11
    by_cases c12 : a0_2.toList = ([] : List UInt8)
    ·rw [if_pos c12] at H
     have c12b0 : (a0_2.toList == ([] : List UInt8)) = true := beq_iff_eq.mpr c12
     have c12b1 : (a0_2.toList != ([] : List UInt8)) = false := bne_eq_false_iff_eq.mpr c12
     clear c12
     replace H := Option.bind_eq_some_iff.mp H
     obtain ⟨t106, A130, H⟩ := H
     try dsimp only at H
     have A13 := Aside0.mk A130
     clear A130
     obtain rfl := Option.some.inj H
     go_enter Tryd.func8, Tryd.ntmps8
     go_wp2_with (first | ((with_reducible refine gate_dst (N := 1) rfl ?_); refine box_event ?hg (N := 1) ?hd (cs := #[.int .i64 a0_0, .int .i64 a0_1, .string a0_2, .string a0_3]) (t := 27) ?hr ?_; (case hd => rfl); (case hg => rfl); (case hr => first | (go_simp; done) | (go_simp; rfl)); intro gb103 hg w14 hbox hb; have n0_ := Aside0.mk (bt_ HB hb); have n1_ := Aside0.mk (hbox); have n2_ := gz_ hg HB; have n3_ := gz_ hg HB; clear HB; have HB := n0_; have BK103 := n1_; have GW103 := n2_; have GE103 := n3_; clear n0_ n1_ n2_ n3_; clear hb hbox hg; have hcz15_0 := cz0_ BK103; have hcz15_1 := cz1_ BK103; have hcz15_2 := cz2_ BK103; have hcz15_3 := cz3_ BK103; have hfz15_0 := fz_ BK103 0; have hfz15_1 := fz_ BK103 1; have hfz15_2 := fz_ BK103 2; have hfz15_3 := fz_ BK103 3) | ((with_reducible refine gate_callee (f := 12) rfl ?_); refine goesL_ (some 5) rfl rfl Tryd.func12 (by kernel_rfl) rfl #[.int .i64 a0_1, .int .i64 0, .int .i64 20] rfl args_ ?_; (with_reducible refine (spec_l1In.calls a0_1 0 20 true _ A2.out).mono ?_); rintro e w' ⟨rfl, ⟨nd, rfl⟩⟩; refine ⟨_, rfl, ?_⟩) | (go_at_call 13; (with_reducible refine (spec_enGloss.calls k a0_3 t106 _ A13.out).mono ?_); rintro e w' ⟨rfl, ⟨nd, rfl⟩⟩))
     go_ret
     exact ⟨by first | rfl | (simp [errW_none, errW_some] <;> rfl) | (simp [*, errW_none, errW_some] <;> rfl), bb1_ HB GE103⟩
    ·rw [if_neg c12] at H
     have c12b0 : (a0_2.toList == ([] : List UInt8)) = false := beq_eq_false_iff_ne.mpr c12
     have c12b1 : (a0_2.toList != ([] : List UInt8)) = true := bne_iff_ne.mpr c12
     obtain rfl := Option.some.inj H
     go_enter Tryd.func8, Tryd.ntmps8
     go_wp2_with (first | ((with_reducible refine gate_dst (N := 1) rfl ?_); refine box_event ?hg (N := 1) ?hd (cs := #[.int .i64 a0_0, .int .i64 a0_1, .string a0_2, .string a0_3]) (t := 27) ?hr ?_; (case hd => rfl); (case hg => rfl); (case hr => first | (go_simp; done) | (go_simp; rfl)); intro gb103 hg w16 hbox hb; have n0_ := Aside0.mk (bt_ HB hb); have n1_ := Aside0.mk (hbox); have n2_ := gz_ hg HB; have n3_ := gz_ hg HB; clear HB; have HB := n0_; have BK103 := n1_; have GW103 := n2_; have GE103 := n3_; clear n0_ n1_ n2_ n3_; clear hb hbox hg; have hcz17_0 := cz0_ BK103; have hcz17_1 := cz1_ BK103; have hcz17_2 := cz2_ BK103; have hcz17_3 := cz3_ BK103; have hfz17_0 := fz_ BK103 0; have hfz17_1 := fz_ BK103 1; have hfz17_2 := fz_ BK103 2; have hfz17_3 := fz_ BK103 3) | ((with_reducible refine gate_callee (f := 12) rfl ?_); refine goesL_ (some 5) rfl rfl Tryd.func12 (by kernel_rfl) rfl #[.int .i64 a0_1, .int .i64 0, .int .i64 20] rfl args_ ?_; (with_reducible refine (spec_l1In.calls a0_1 0 20 true _ A2.out).mono ?_); rintro e w' ⟨rfl, ⟨nd, rfl⟩⟩; refine ⟨_, rfl, ?_⟩))
     go_ret
     exact ⟨by first | rfl | (simp [errW_none, errW_some] <;> rfl) | (simp [*, errW_none, errW_some] <;> rfl), bb1_ HB GE103⟩
   ·rw [if_neg c11] at H
    have c11b0 : (a0_0 == 1) = false := beq_eq_false_iff_ne.mpr c11
    have c11b1 : (a0_0 != 1) = true := bne_iff_ne.mpr c11
    by_cases c18 : a0_0 = 2
    ·rw [if_pos c18] at H
     have c18b0 : (a0_0 == 2) = true := beq_iff_eq.mpr c18
     have c18b1 : (a0_0 != 2) = false := bne_eq_false_iff_eq.mpr c18
     clear c18
     replace H := Option.bind_eq_some_iff.mp H
     obtain ⟨t107, A190, H⟩ := H
     try dsimp only at H
     have A19 := Aside0.mk A190
     clear A190
     by_cases c20 : t107 = true
     ·subst c20
      have H1 : ((spec_enGloss.f k a0_3).bind fun t108 => (if t108 = true then (some (a0_2.toList != a0_3.toList)) else (some false))) = some r := by rw [if_pos rfl] at H; exact H
      clear H
      have H := H1
      clear H1
      replace H := Option.bind_eq_some_iff.mp H
      obtain ⟨t108, A210, H⟩ := H
      try dsimp only at H
      have A21 := Aside0.mk A210
      clear A210
      by_cases c22 : t108 = true
      ·subst c22
       have H1 : (some (a0_2.toList != a0_3.toList)) = some r := by rw [if_pos rfl] at H; exact H
       clear H
       have H := H1
       clear H1
       obtain rfl := Option.some.inj H
       go_enter Tryd.func8, Tryd.ntmps8
       go_wp2_with (first | ((with_reducible refine gate_dst (N := 1) rfl ?_); refine box_event ?hg (N := 1) ?hd (cs := #[.int .i64 a0_0, .int .i64 a0_1, .string a0_2, .string a0_3]) (t := 27) ?hr ?_; (case hd => rfl); (case hg => rfl); (case hr => first | (go_simp; done) | (go_simp; rfl)); intro gb103 hg w23 hbox hb; have n0_ := Aside0.mk (bt_ HB hb); have n1_ := Aside0.mk (hbox); have n2_ := gz_ hg HB; have n3_ := gz_ hg HB; clear HB; have HB := n0_; have BK103 := n1_; have GW103 := n2_; have GE103 := n3_; clear n0_ n1_ n2_ n3_; clear hb hbox hg; have hcz24_0 := cz0_ BK103; have hcz24_1 := cz1_ BK103; have hcz24_2 := cz2_ BK103; have hcz24_3 := cz3_ BK103; have hfz24_0 := fz_ BK103 0; have hfz24_1 := fz_ BK103 1; have hfz24_2 := fz_ BK103 2; have hfz24_3 := fz_ BK103 3) | ((with_reducible refine gate_callee (f := 12) rfl ?_); refine goesL_ (some 5) rfl rfl Tryd.func12 (by kernel_rfl) rfl #[.int .i64 a0_1, .int .i64 0, .int .i64 20] rfl args_ ?_; (with_reducible refine (spec_l1In.calls a0_1 0 20 true _ A2.out).mono ?_); rintro e w' ⟨rfl, ⟨nd, rfl⟩⟩; refine ⟨_, rfl, ?_⟩) | ((with_reducible refine gate_callee (f := 13) rfl ?_); refine goesL_ (some 33) rfl rfl Tryd.func13 (by kernel_rfl) rfl #[.string a0_2] rfl args_ ?_; (with_reducible refine (spec_enGloss.calls k a0_2 true _ A19.out).mono ?_); rintro e w' ⟨rfl, ⟨nd, rfl⟩⟩; refine ⟨_, rfl, ?_⟩) | (go_at_call 13; (with_reducible refine (spec_enGloss.calls k a0_3 true _ A21.out).mono ?_); rintro e w' ⟨rfl, ⟨nd, rfl⟩⟩))
       go_ret
       exact ⟨by first | rfl | (simp [errW_none, errW_some] <;> rfl) | (simp [*, errW_none, errW_some] <;> rfl), bb1_ HB GE103⟩
      ·replace c22 := Bool.eq_false_iff.mpr c22
       subst c22
       have H1 : (some false) = some r := by rw [if_neg (show ¬ (false = true) by decide)] at H; exact H
       clear H
       have H := H1
       clear H1
       obtain rfl := Option.some.inj H
       go_enter Tryd.func8, Tryd.ntmps8
       go_wp2_with (first | ((with_reducible refine gate_dst (N := 1) rfl ?_); refine box_event ?hg (N := 1) ?hd (cs := #[.int .i64 a0_0, .int .i64 a0_1, .string a0_2, .string a0_3]) (t := 27) ?hr ?_; (case hd => rfl); (case hg => rfl); (case hr => first | (go_simp; done) | (go_simp; rfl)); intro gb103 hg w25 hbox hb; have n0_ := Aside0.mk (bt_ HB hb); have n1_ := Aside0.mk (hbox); have n2_ := gz_ hg HB; have n3_ := gz_ hg HB; clear HB; have HB := n0_; have BK103 := n1_; have GW103 := n2_; have GE103 := n3_; clear n0_ n1_ n2_ n3_; clear hb hbox hg; have hcz26_0 := cz0_ BK103; have hcz26_1 := cz1_ BK103; have hcz26_2 := cz2_ BK103; have hcz26_3 := cz3_ BK103; have hfz26_0 := fz_ BK103 0; have hfz26_1 := fz_ BK103 1; have hfz26_2 := fz_ BK103 2; have hfz26_3 := fz_ BK103 3) | ((with_reducible refine gate_callee (f := 12) rfl ?_); refine goesL_ (some 5) rfl rfl Tryd.func12 (by kernel_rfl) rfl #[.int .i64 a0_1, .int .i64 0, .int .i64 20] rfl args_ ?_; (with_reducible refine (spec_l1In.calls a0_1 0 20 true _ A2.out).mono ?_); rintro e w' ⟨rfl, ⟨nd, rfl⟩⟩; refine ⟨_, rfl, ?_⟩) | ((with_reducible refine gate_callee (f := 13) rfl ?_); refine goesL_ (some 33) rfl rfl Tryd.func13 (by kernel_rfl) rfl #[.string a0_2] rfl args_ ?_; (with_reducible refine (spec_enGloss.calls k a0_2 true _ A19.out).mono ?_); rintro e w' ⟨rfl, ⟨nd, rfl⟩⟩; refine ⟨_, rfl, ?_⟩) | (go_at_call 13; (with_reducible refine (spec_enGloss.calls k a0_3 false _ A21.out).mono ?_); rintro e w' ⟨rfl, ⟨nd, rfl⟩⟩))
       go_ret
       exact ⟨by first | rfl | (simp [errW_none, errW_some] <;> rfl) | (simp [*, errW_none, errW_some] <;> rfl), bb1_ HB GE103⟩
     ·replace c20 := Bool.eq_false_iff.mpr c20
      subst c20
      have H1 : (some false) = some r := by rw [if_neg (show ¬ (false = true) by decide)] at H; exact H
      clear H
      have H := H1
      clear H1
      obtain rfl := Option.some.inj H
      go_enter Tryd.func8, Tryd.ntmps8
      go_wp2_with (first | ((with_reducible refine gate_dst (N := 1) rfl ?_); refine box_event ?hg (N := 1) ?hd (cs := #[.int .i64 a0_0, .int .i64 a0_1, .string a0_2, .string a0_3]) (t := 27) ?hr ?_; (case hd => rfl); (case hg => rfl); (case hr => first | (go_simp; done) | (go_simp; rfl)); intro gb103 hg w27 hbox hb; have n0_ := Aside0.mk (bt_ HB hb); have n1_ := Aside0.mk (hbox); have n2_ := gz_ hg HB; have n3_ := gz_ hg HB; clear HB; have HB := n0_; have BK103 := n1_; have GW103 := n2_; have GE103 := n3_; clear n0_ n1_ n2_ n3_; clear hb hbox hg; have hcz28_0 := cz0_ BK103; have hcz28_1 := cz1_ BK103; have hcz28_2 := cz2_ BK103; have hcz28_3 := cz3_ BK103; have hfz28_0 := fz_ BK103 0; have hfz28_1 := fz_ BK103 1; have hfz28_2 := fz_ BK103 2; have hfz28_3 := fz_ BK103 3) | ((with_reducible refine gate_callee (f := 12) rfl ?_); refine goesL_ (some 5) rfl rfl Tryd.func12 (by kernel_rfl) rfl #[.int .i64 a0_1, .int .i64 0, .int .i64 20] rfl args_ ?_; (with_reducible refine (spec_l1In.calls a0_1 0 20 true _ A2.out).mono ?_); rintro e w' ⟨rfl, ⟨nd, rfl⟩⟩; refine ⟨_, rfl, ?_⟩) | ((with_reducible refine gate_callee (f := 13) rfl ?_); refine goesL_ (some 33) rfl rfl Tryd.func13 (by kernel_rfl) rfl #[.string a0_2] rfl args_ ?_; (with_reducible refine (spec_enGloss.calls k a0_2 false _ A19.out).mono ?_); rintro e w' ⟨rfl, ⟨nd, rfl⟩⟩; refine ⟨_, rfl, ?_⟩))
      go_ret
      exact ⟨by first | rfl | (simp [errW_none, errW_some] <;> rfl) | (simp [*, errW_none, errW_some] <;> rfl), bb1_ HB GE103⟩
    ·rw [if_neg c18] at H
     have c18b0 : (a0_0 == 2) = false := beq_eq_false_iff_ne.mpr c18
     have c18b1 : (a0_0 != 2) = true := bne_iff_ne.mpr c18
     obtain rfl := Option.some.inj H
     go_enter Tryd.func8, Tryd.ntmps8
     go_wp2_with (first | ((with_reducible refine gate_dst (N := 1) rfl ?_); refine box_event ?hg (N := 1) ?hd (cs := #[.int .i64 a0_0, .int .i64 a0_1, .string a0_2, .string a0_3]) (t := 27) ?hr ?_; (case hd => rfl); (case hg => rfl); (case hr => first | (go_simp; done) | (go_simp; rfl)); intro gb103 hg w29 hbox hb; have n0_ := Aside0.mk (bt_ HB hb); have n1_ := Aside0.mk (hbox); have n2_ := gz_ hg HB; have n3_ := gz_ hg HB; clear HB; have HB := n0_; have BK103 := n1_; have GW103 := n2_; have GE103 := n3_; clear n0_ n1_ n2_ n3_; clear hb hbox hg; have hcz30_0 := cz0_ BK103; have hcz30_1 := cz1_ BK103; have hcz30_2 := cz2_ BK103; have hcz30_3 := cz3_ BK103; have hfz30_0 := fz_ BK103 0; have hfz30_1 := fz_ BK103 1; have hfz30_2 := fz_ BK103 2; have hfz30_3 := fz_ BK103 3) | ((with_reducible refine gate_callee (f := 12) rfl ?_); refine goesL_ (some 5) rfl rfl Tryd.func12 (by kernel_rfl) rfl #[.int .i64 a0_1, .int .i64 0, .int .i64 20] rfl args_ ?_; (with_reducible refine (spec_l1In.calls a0_1 0 20 true _ A2.out).mono ?_); rintro e w' ⟨rfl, ⟨nd, rfl⟩⟩; refine ⟨_, rfl, ?_⟩))
     go_ret
     exact ⟨by first | rfl | (simp [errW_none, errW_some] <;> rfl) | (simp [*, errW_none, errW_some] <;> rfl), bb1_ HB GE103⟩
 ·replace c3 := Bool.eq_false_iff.mpr c3
  subst c3
  have H1 : (some false) = some r := by rw [if_neg (show ¬ (false = true) by decide)] at H; exact H
  clear H
  have H := H1
  clear H1
  obtain rfl := Option.some.inj H
  go_enter Tryd.func8, Tryd.ntmps8
  go_wp2_with (first | ((with_reducible refine gate_dst (N := 1) rfl ?_); refine box_event ?hg (N := 1) ?hd (cs := #[.int .i64 a0_0, .int .i64 a0_1, .string a0_2, .string a0_3]) (t := 27) ?hr ?_; (case hd => rfl); (case hg => rfl); (case hr => first | (go_simp; done) | (go_simp; rfl)); intro gb103 hg w31 hbox hb; have n0_ := Aside0.mk (bt_ HB hb); have n1_ := Aside0.mk (hbox); have n2_ := gz_ hg HB; have n3_ := gz_ hg HB; clear HB; have HB := n0_; have BK103 := n1_; have GW103 := n2_; have GE103 := n3_; clear n0_ n1_ n2_ n3_; clear hb hbox hg; have hcz32_0 := cz0_ BK103; have hcz32_1 := cz1_ BK103; have hcz32_2 := cz2_ BK103; have hcz32_3 := cz3_ BK103; have hfz32_0 := fz_ BK103 0; have hfz32_1 := fz_ BK103 1; have hfz32_2 := fz_ BK103 2; have hfz32_3 := fz_ BK103 3) | ((with_reducible refine gate_callee (f := 12) rfl ?_); refine goesL_ (some 5) rfl rfl Tryd.func12 (by kernel_rfl) rfl #[.int .i64 a0_1, .int .i64 0, .int .i64 20] rfl args_ ?_; (with_reducible refine (spec_l1In.calls a0_1 0 20 false _ A2.out).mono ?_); rintro e w' ⟨rfl, ⟨nd, rfl⟩⟩; refine ⟨_, rfl, ?_⟩))
  go_ret
  exact ⟨by first | rfl | (simp [errW_none, errW_some] <;> rfl) | (simp [*, errW_none, errW_some] <;> rfl), bb1_ HB GE103⟩

/-! ### spec_l1Num: function 9 -/
def spec_l1Num.f : Nat → Int → Option (ByteArray)
 | 0, _ => none
 | k + 1, a0 => if a0 < 10 then (some (strOfNums (([(wrap64 (48 + a0)) % 256] : List Int)))) else ((spec_l1Num.f k (wrap64 (Int.tdiv a0 10))).bind fun t112 => ((some (([(wrap64 (48 + (Int.tmod a0 10))) % 256] : List Int) : List Int)).bind fun y113 => (if t112.size + (strOfNums y113).size ≤ 9223372036854775807 then (some (t112 ++ (strOfNums y113))) else (none))))
theorem spec_l1Num.mono_l : ∀ k, (∀ y0, LeO (spec_l1Num.f k y0) (spec_l1Num.f (k + 1) y0))
 | 0 => fun _ r h => by simp [spec_l1Num.f] at h
 | k + 1 => by
  have ih0 := spec_l1Num.mono_l k
  ·intro y0
   unfold spec_l1Num.f
   repeat' first
   | (with_reducible exact ih0 _)
   | (with_reducible exact LeO.refl _)
   | (with_reducible exact LeO.none _)
   | (with_reducible refine LeO.ite ?_ ?_)
   | (with_reducible refine LeO.bind ?_ (fun _ => ?_))
   | exact ih0 _
   | exact LeO.none _
   | refine LeO.ite ?_ ?_
   | refine LeO.bind ?_ (fun _ => ?_)
theorem spec_l1Num.mono : ∀ a0 k, LeO (spec_l1Num.f k a0) (spec_l1Num.f (k + 1) a0) := by
 intro a0 k
 have ih0 := spec_l1Num.mono_l k
 exact ih0 a0
def spec_l1Num.T3 : Bool × List (List Nat × List Nat) := (true, [([], []), ([0], [0]), ([1], [1]), ([], []), ([3], [3]), ([4], [4]), ([5], [5]), ([6], [6]), ([7], [7]), ([2, 8], [2, 8]), ([9, 2, 0, 1, 2, 3, 4, 5, 6, 7, 8, 9], [9])])
def spec_l1Num.B3 : List Nat := [0, 1, 3, 0, 8, 24, 56, 120, 248, 511, 1023]
theorem spec_l1Num.tab3 : rtab .any (opsOf Tryd.f9 3) = spec_l1Num.T3 := by kernel_rfl
theorem spec_l1Num.bits3 : waitsOk spec_l1Num.T3.2 spec_l1Num.B3 = true := by kernel_rfl
set_option maxHeartbeats 8000000 in
set_option maxRecDepth 100000 in
theorem spec_l1Num.calls (k : Nat) : ∀ (a0 : Int) (r : ByteArray) (w : World) (h : spec_l1Num.f k a0 = some r),
  Calls Tryd.prog 9 #[.int .i64 a0] w fun e w' => e = .returned (.string r) ∧ Below w.heap.size w w' := by
 induction k using Nat.strongRecOn with
 | _ k ih =>
 intro a0 r w h
 cases k with
 | zero => exact absurd h (by simp [spec_l1Num.f])
 | succ k =>
 simp only [spec_l1Num.f] at h
 have HB := Aside0.mk (Below.refl w.heap.size w)
 have H : (if a0 < 10 then (some (strOfNums (([(wrap64 (48 + a0)) % 256] : List Int)))) else ((spec_l1Num.f k (wrap64 (Int.tdiv a0 10))).bind fun t112 => ((some (([(wrap64 (48 + (Int.tmod a0 10))) % 256] : List Int) : List Int)).bind fun y113 => (if t112.size + (strOfNums y113).size ≤ 9223372036854775807 then (some (t112 ++ (strOfNums y113))) else (none))))) = some r := h
 clear h
 by_cases c2 : a0 < 10
 ·rw [if_pos c2] at H
  have c2b0 : decide (a0 < 10) = true := decide_eq_true c2
  clear c2
  obtain ⟨y109, hy109⟩ : ∃ y_ : List Int, y_ = (([(wrap64 (48 + a0)) % 256] : List Int)) := ⟨_, rfl⟩
  replace H : (some (strOfNums y109)) = some r := by first | (rw [hy109]; with_reducible exact H) | (have H2_ := (Option.bind_some _ _).symm.trans H; rw [hy109]; with_reducible exact H2_) | (have H2_ := (Option.bind_some _ _).symm.trans H; with_reducible exact H2_) | with_reducible exact H | (rw [hy109]; exact H) | exact H
  have Ny109 := Aside0.mk hy109
  clear hy109
  obtain rfl := Option.some.inj H
  go_enter Tryd.func9, Tryd.ntmps9
  go_wp2_with (first | ((with_reducible refine gate_dst (N := 8) rfl ?_); refine Kd.R_lit (Kd.int .u8) _ 5 ?hg (N := 8) ?hd (xs := ([(wrap64 (48 + a0)) % 256] : List Int)) (inner := [.int .u8 ((wrap64 (48 + a0)) % 256)]) (ok := fun _ => True) (okp := fun _ => True) ?hr ?hp (fun _ hk => hk) trivial (Below.refl _ _) (Nat.le_refl _) (by simp) ?_; (case hd => rfl); (case hg => rfl); (case hr => first | (go_simp; done) | (go_simp; rfl)); (case hp => exact (Reps.one (show Kd.M (Kd.int .u8) _ _ _ ((wrap64 (48 + a0)) % 256) [.int .u8 ((wrap64 (48 + a0)) % 256)] from rfl) (Reps.none _ _))); intro v110 w3 ho4 hb hg_ hnew_; clear hg_ hnew_; (first | rw [← Ny109.out] at ho4 | (simp only [Int.reduceToNat] at ho4; rw [← Ny109.out] at ho4)); have n0_ := Aside0.mk (Kd.R_lower ho4 (bz_ HB)); have n1_ := Aside0.mk (bt_ HB hb); clear HB; have HO111 := n0_; have HB := n1_; clear n0_ n1_; clear hb ho4; have hcv5 := own_string (P := Tryd.prog) Tryd.underlying34 Tryd.underlying5 Tryd.underlying9 (Kd.own_of_R HO111.out)))
  go_ret
  exact ⟨by first | rfl | (simp [errW_none, errW_some] <;> rfl) | (simp [*, errW_none, errW_some] <;> rfl), bb_ HB⟩
 ·rw [if_neg c2] at H
  have c2b0 : decide (a0 < 10) = false := decide_eq_false c2
  clear c2
  replace H := Option.bind_eq_some_iff.mp H
  obtain ⟨t112, A60, H⟩ := H
  try dsimp only at H
  have A6 := Aside0.mk A60
  clear A60
  obtain ⟨y113, hy113⟩ : ∃ y_ : List Int, y_ = (([(wrap64 (48 + (Int.tmod a0 10))) % 256] : List Int)) := ⟨_, rfl⟩
  replace H : (if t112.size + (strOfNums y113).size ≤ 9223372036854775807 then (some (t112 ++ (strOfNums y113))) else (none)) = some r := by first | (rw [hy113]; with_reducible exact H) | (have H2_ := (Option.bind_some _ _).symm.trans H; rw [hy113]; with_reducible exact H2_) | (have H2_ := (Option.bind_some _ _).symm.trans H; with_reducible exact H2_) | with_reducible exact H | (rw [hy113]; exact H) | exact H
  have Ny113 := Aside0.mk hy113
  clear hy113
  by_cases c7 : t112.size + (strOfNums y113).size ≤ 9223372036854775807
  ·rw [if_pos c7] at H
   have c7b0 := eq_true c7
   have c7b1 : decide (t112.size + (strOfNums y113).size ≤ 9223372036854775807) = true := decide_eq_true c7
   try have c7b2 : (9223372036854775807 < t112.size + (strOfNums y113).size) = False := eq_false (Nat.not_lt.2 c7)
   obtain rfl := Option.some.inj H
   go_enter Tryd.func9, Tryd.ntmps9
   try go_wp2
   have n0_ := Aside0.mk (below_drew1 HB.out)
   clear HB
   have HB := n0_
   clear n0_
   refine start_ (n := 11) (S := fun w' => True) (ds := []) #[false, false, false, false, false, false, false, false, false, false, false] (by kernel_rfl) rfl rfl trivial (fun hHeld => ?_); refine with_tabW spec_l1Num.tab3 spec_l1Num.bits3 (fun HT_ HW_ => ?_)
   generalize w.drew = w8 at HB hHeld ⊢
   refine pu_ (i := 0) (N := some 10) (v := ?_) (a' := ?_) #[true, false, false, false, false, false, false, false, false, false, false] rfl rfl (Or.inl ⟨by rfl, ?_⟩) ?_ ?_
   rotate_left
   ·intro w'
    go_simp
    with_reducible rfl
   rotate_left
   ·simp only [Act.put, sA_, sB_, sC_, i64_w, i32_w]
    rfl
   refine pu_ (i := 1) (N := some 11) (v := ?_) (a' := ?_) #[true, true, false, false, false, false, false, false, false, false, false] rfl rfl (Or.inl ⟨by rfl, ?_⟩) ?_ ?_
   rotate_left
   ·intro w'
    go_simp
    with_reducible rfl
   rotate_left
   ·simp only [Act.put, sA_, sB_, sC_, i64_w, i32_w]
    rfl
   refine pu_ (i := 3) (N := some 13) (v := ?_) (a' := ?_) #[true, true, false, true, false, false, false, false, false, false, false] rfl rfl (Or.inl ⟨by rfl, ?_⟩) ?_ ?_
   rotate_left
   ·intro w'
    go_simp
    with_reducible rfl
   rotate_left
   ·simp only [Act.put, sA_, sB_, sC_, i64_w, i32_w]
    rfl
   refine pu_ (i := 4) (N := some 14) (v := ?_) (a' := ?_) #[true, true, false, true, true, false, false, false, false, false, false] rfl rfl (Or.inl ⟨by rfl, ?_⟩) ?_ ?_
   rotate_left
   ·intro w'
    go_simp
    with_reducible rfl
   rotate_left
   ·simp only [Act.put, sA_, sB_, sC_, i64_w, i32_w]
    rfl
   refine pu_ (i := 5) (N := some 15) (v := ?_) (a' := ?_) #[true, true, false, true, true, true, false, false, false, false, false] rfl rfl (Or.inl ⟨by rfl, ?_⟩) ?_ ?_
   rotate_left
   ·intro w'
    go_simp
    with_reducible rfl
   rotate_left
   ·simp only [Act.put, sA_, sB_, sC_, i64_w, i32_w]
    rfl
   refine pu_ (i := 6) (N := some 16) (v := ?_) (a' := ?_) #[true, true, false, true, true, true, true, false, false, false, false] rfl rfl (Or.inl ⟨by rfl, ?_⟩) ?_ ?_
   rotate_left
   ·intro w'
    go_simp
    with_reducible rfl
   rotate_left
   ·simp only [Act.put, sA_, sB_, sC_, i64_w, i32_w]
    rfl
   refine join_ (σ := Value) 2 #[true, true, true, true, true, true, true, true, true, false, false] (fun s_ => [(12, .string t112), (17, s_), (18, .string (strOfNums y113))]) (fun s_ w' => (Kd.R (Kd.int .u8) 5 w' w.heap.size (fun _ => True) s_ y113) ∧ (Below w.heap.size w w')) ?_ ?_
   rotate_left
   ·intro hCont
    refine two_ (i := 2) (j := 7) (Ni := some 12) (Nj := some 17) #[true, true, true, true, true, true, true, false, false, false, false] #[true, true, false, true, true, true, true, true, false, false, false] rfl rfl rfl rfl (two_of HT_.out (by kernel_rfl)) (by decide) (by decide) (fun K hK => ?_) (fun K hK => ?_)
    ·skip
     refine goes_ Tryd.func9 (by kernel_rfl) rfl #[.int .i64 (wrap64 (Int.tdiv a0 10))] (by rfl) rfl rfl args_ ?_
     with_reducible refine (ih k (by omega) (wrap64 (Int.tdiv a0 10)) t112 _ A6.out).mono ?_
     rintro e w9 ⟨rfl, hb⟩
     refine ⟨_, rfl, ?_⟩
     have n0_ := Aside0.mk (bt_ HB hb)
     clear HB
     have HB := n0_
     clear n0_
     (try clear hb)
     (try clear hb2)
     (try clear hk)
     (try clear hi)
     refine hK.out _ _ trivial (fun hHeld => ?_)
     clear hK K
     refine norm_ (a' := ?_) ?_ ?_
     rotate_left
     ·show Act.put _ (some 12) _ = _
      simp only [Act.put, sA_, sB_, sC_, i64_w, i32_w]
      rfl
     refine one_ (i := 7) (N := some 17) #[true, true, true, true, true, true, true, true, false, false, false] rfl rfl (one_of HT_.out (by kernel_rfl)) (by decide) (fun K hK => ?_)
     refine Kd.R_lit_step (Kd.int .u8) _ 5 ?hg (N := 17) ?hd (xs := ([(wrap64 (48 + (Int.tmod a0 10))) % 256] : List Int)) (inner := [.int .u8 ((wrap64 (48 + (Int.tmod a0 10))) % 256)]) (ok := fun _ => True) (okp := fun _ => True) ?hr ?hp (fun _ hk => hk) trivial (Below.refl _ _) (Nat.le_refl _) (by simp) ?_; (case hd => rfl); (case hg => rfl); (case hr => first | (go_simp; done) | (go_simp; rfl)); (case hp => exact (Reps.one (show Kd.M (Kd.int .u8) _ _ _ ((wrap64 (48 + (Int.tmod a0 10))) % 256) [.int .u8 ((wrap64 (48 + (Int.tmod a0 10))) % 256)] from rfl) (Reps.none _ _)))
     intro v114 w10 ho11 hb hg_ hnew_
     clear hg_ hnew_
     (first | rw [← Ny113.out] at ho11 | (simp only [Int.reduceToNat] at ho11; rw [← Ny113.out] at ho11))
     have n0_ := Aside0.mk (Kd.R_lower ho11 (bz_ HB))
     have n1_ := Aside0.mk (bt_ HB hb)
     clear HB
     have HO115 := n0_
     have HB := n1_
     clear n0_ n1_
     clear hb ho11
     refine hK.out _ _ trivial (fun hHeld => ?_)
     clear hK K
     refine norm_ (a' := ?_) ?_ ?_
     rotate_left
     ·show Act.put _ (some 17) _ = _
      simp only [Act.put, sA_, sB_, sC_, i64_w, i32_w]
      rfl
     refine one_ (i := 8) (N := some 18) #[true, true, true, true, true, true, true, true, true, false, false] rfl rfl (one_of HT_.out (by kernel_rfl)) (by decide) (fun K hK => ?_)
     have hcv12 := own_string (P := Tryd.prog) Tryd.underlying34 Tryd.underlying5 Tryd.underlying9 (Kd.own_of_R HO115.out)
     refine value_ (w1 := ?_) (v := ?_) (by rfl) rfl ?_ ?_
     rotate_left 2
     ·go_simp
      constructor
      ·rfl
      ·rfl
     clear hcv12
     refine hK.out _ _ trivial (fun hHeld => ?_)
     clear hK K
     refine norm_ (a' := ?_) ?_ ?_
     rotate_left
     ·show Act.put _ (some 18) _ = _
      simp only [Act.put, sA_, sB_, sC_, i64_w, i32_w]
      rfl
     exact norm_ (by simp only [putAll, Act.put, List.setIfInBounds_toArray, List.set_cons_zero, List.set_cons_succ]) (hCont (v114) _ ⟨(ra_ HO115), (bb_ HB)⟩)
    ·skip
     refine Kd.R_lit_step (Kd.int .u8) _ 5 ?hg (N := 17) ?hd (xs := ([(wrap64 (48 + (Int.tmod a0 10))) % 256] : List Int)) (inner := [.int .u8 ((wrap64 (48 + (Int.tmod a0 10))) % 256)]) (ok := fun _ => True) (okp := fun _ => True) ?hr ?hp (fun _ hk => hk) trivial (Below.refl _ _) (Nat.le_refl _) (by simp) ?_; (case hd => rfl); (case hg => rfl); (case hr => first | (go_simp; done) | (go_simp; rfl)); (case hp => exact (Reps.one (show Kd.M (Kd.int .u8) _ _ _ ((wrap64 (48 + (Int.tmod a0 10))) % 256) [.int .u8 ((wrap64 (48 + (Int.tmod a0 10))) % 256)] from rfl) (Reps.none _ _)))
     intro v114 w9 ho10 hb hg_ hnew_
     clear hg_ hnew_
     (first | rw [← Ny113.out] at ho10 | (simp only [Int.reduceToNat] at ho10; rw [← Ny113.out] at ho10))
     have n0_ := Aside0.mk (Kd.R_lower ho10 (bz_ HB))
     have n1_ := Aside0.mk (bt_ HB hb)
     clear HB
     have HO115 := n0_
     have HB := n1_
     clear n0_ n1_
     clear hb ho10
     refine hK.out _ _ trivial (fun hHeld => ?_)
     clear hK K
     refine norm_ (a' := ?_) ?_ ?_
     rotate_left
     ·show Act.put _ (some 17) _ = _
      simp only [Act.put, sA_, sB_, sC_, i64_w, i32_w]
      rfl
     refine two_ (i := 2) (j := 8) (Ni := some 12) (Nj := some 18) #[true, true, true, true, true, true, true, true, false, false, false] #[true, true, false, true, true, true, true, true, true, false, false] rfl rfl rfl rfl (two_of HT_.out (by kernel_rfl)) (by decide) (by decide) (fun K hK => ?_) (fun K hK => ?_)
     ·skip
      refine goes_ Tryd.func9 (by kernel_rfl) rfl #[.int .i64 (wrap64 (Int.tdiv a0 10))] (by rfl) rfl rfl args_ ?_
      with_reducible refine (ih k (by omega) (wrap64 (Int.tdiv a0 10)) t112 _ A6.out).mono ?_
      rintro e w11 ⟨rfl, hb⟩
      refine ⟨_, rfl, ?_⟩
      have n0_ := Aside0.mk (Kd.R_below (ra_ HO115) hb)
      have n1_ := Aside0.mk (bt_ HB hb)
      clear HO115
      clear HB
      have HO115 := n0_
      have HB := n1_
      clear n0_ n1_
      (try clear hb)
      (try clear hb2)
      (try clear hk)
      (try clear hi)
      refine hK.out _ _ trivial (fun hHeld => ?_)
      clear hK K
      refine norm_ (a' := ?_) ?_ ?_
      rotate_left
      ·show Act.put _ (some 12) _ = _
       simp only [Act.put, sA_, sB_, sC_, i64_w, i32_w]
       rfl
      refine one_ (i := 8) (N := some 18) #[true, true, true, true, true, true, true, true, true, false, false] rfl rfl (one_of HT_.out (by kernel_rfl)) (by decide) (fun K hK => ?_)
      have hcv12 := own_string (P := Tryd.prog) Tryd.underlying34 Tryd.underlying5 Tryd.underlying9 (Kd.own_of_R HO115.out)
      refine value_ (w1 := ?_) (v := ?_) (by rfl) rfl ?_ ?_
      rotate_left 2
      ·go_simp
       constructor
       ·rfl
       ·rfl
      clear hcv12
      refine hK.out _ _ trivial (fun hHeld => ?_)
      clear hK K
      refine norm_ (a' := ?_) ?_ ?_
      rotate_left
      ·show Act.put _ (some 18) _ = _
       simp only [Act.put, sA_, sB_, sC_, i64_w, i32_w]
       rfl
      exact norm_ (by simp only [putAll, Act.put, List.setIfInBounds_toArray, List.set_cons_zero, List.set_cons_succ]) (hCont (v114) _ ⟨(ra_ HO115), (bb_ HB)⟩)
     ·skip
      have hcv11 := own_string (P := Tryd.prog) Tryd.underlying34 Tryd.underlying5 Tryd.underlying9 (Kd.own_of_R HO115.out)
      refine value_ (w1 := ?_) (v := ?_) (by rfl) rfl ?_ ?_
      rotate_left 2
      ·go_simp
       constructor
       ·rfl
       ·rfl
      clear hcv11
      refine hK.out _ _ trivial (fun hHeld => ?_)
      clear hK K
      refine norm_ (a' := ?_) ?_ ?_
      rotate_left
      ·show Act.put _ (some 18) _ = _
       simp only [Act.put, sA_, sB_, sC_, i64_w, i32_w]
       rfl
      refine one_ (i := 2) (N := some 12) #[true, true, true, true, true, true, true, true, true, false, false] rfl rfl (one_of HT_.out (by kernel_rfl)) (by decide) (fun K hK => ?_)
      refine goes_ Tryd.func9 (by kernel_rfl) rfl #[.int .i64 (wrap64 (Int.tdiv a0 10))] (by rfl) rfl rfl args_ ?_
      with_reducible refine (ih k (by omega) (wrap64 (Int.tdiv a0 10)) t112 _ A6.out).mono ?_
      rintro e w12 ⟨rfl, hb⟩
      refine ⟨_, rfl, ?_⟩
      have n0_ := Aside0.mk (Kd.R_below (ra_ HO115) hb)
      have n1_ := Aside0.mk (bt_ HB hb)
      clear HO115
      clear HB
      have HO115 := n0_
      have HB := n1_
      clear n0_ n1_
      (try clear hb)
      (try clear hb2)
      (try clear hk)
      (try clear hi)
      refine hK.out _ _ trivial (fun hHeld => ?_)
      clear hK K
      refine norm_ (a' := ?_) ?_ ?_
      rotate_left
      ·show Act.put _ (some 12) _ = _
       simp only [Act.put, sA_, sB_, sC_, i64_w, i32_w]
       rfl
      exact norm_ (by simp only [putAll, Act.put, List.setIfInBounds_toArray, List.set_cons_zero, List.set_cons_succ]) (hCont (v114) _ ⟨(ra_ HO115), (bb_ HB)⟩)
   rintro v114 w13 ⟨h0_, h1_⟩
   have n0_ : Aside0 (Kd.R (Kd.int .u8) 5 w13 w.heap.size (fun _ => True) v114 y113) := ⟨h0_⟩
   have n1_ : Aside0 (Below w.heap.size w w13) := ⟨h1_⟩
   clear HB
   clear h0_ h1_
   have HO115 := n0_
   have HB := n1_
   clear n0_ n1_
   have hHeld := trivial
   refine norm_ (a' := ?_) ?_ ?_
   rotate_left
   ·simp only [putAll, Act.put, List.setIfInBounds_toArray, List.set_cons_zero, List.set_cons_succ]
    rfl
   refine pu_ (i := 9) (N := some 19) (v := ?_) (a' := ?_) #[true, true, true, true, true, true, true, true, true, true, false] rfl rfl (Or.inl ⟨by rfl, ?_⟩) ?_ ?_
   rotate_left
   ·intro w'
    go_simp
    with_reducible rfl
   rotate_left
   ·simp only [Act.put, sA_, sB_, sC_, i64_w, i32_w]
    rfl
   refine pu_ (i := 10) (N := some 2) (v := ?_) (a' := ?_) #[true, true, true, true, true, true, true, true, true, true, true] rfl rfl (Or.inl ⟨by rfl, ?_⟩) ?_ ?_
   rotate_left
   ·intro w'
    go_simp
    with_reducible rfl
   rotate_left
   ·simp only [Act.put, sA_, sB_, sC_, i64_w, i32_w]
    rfl
   refine done_ (done_of HT_.out (by kernel_rfl)) ?_
   try go_wp2
   go_ret
   exact ⟨by first | rfl | (simp [errW_none, errW_some] <;> rfl) | (simp [*, errW_none, errW_some] <;> rfl), bb_ HB⟩
  ·rw [if_neg c7] at H
   exact absurd H (by simp)

/-! ### spec_EditText: function 5 -/
def spec_EditText.f (k : Nat) (a0_0 : Int) (a0_1 : Int) (a0_2 : ByteArray) (a0_3 : ByteArray) : Option (ByteArray × Bool) := (spec_unEdit.f k a0_0 a0_1 a0_2 a0_3).bind fun t117 => (if t117 = true then (if 0 ≤ a0_0 then (if a0_0 ≤ (wrap64 (a0_0 + 1)) then (if (wrap64 (a0_0 + 1)) ≤ 3 then ((spec_l1Num.f k a0_1).bind fun t118 => (if ((⟨#[43, 45, 61]⟩ : ByteArray).extract (a0_0 : Int).toNat ((wrap64 (a0_0 + 1)) : Int).toNat).size + t118.size ≤ 9223372036854775807 then (if (((⟨#[43, 45, 61]⟩ : ByteArray).extract (a0_0 : Int).toNat ((wrap64 (a0_0 + 1)) : Int).toNat) ++ t118).size + 1 ≤ 9223372036854775807 then (if a0_0 = 0 then (if ((((⟨#[43, 45, 61]⟩ : ByteArray).extract (a0_0 : Int).toNat ((wrap64 (a0_0 + 1)) : Int).toNat) ++ t118) ++ (⟨#[32]⟩ : ByteArray)).size + a0_2.size ≤ 9223372036854775807 then (some (((((⟨#[43, 45, 61]⟩ : ByteArray).extract (a0_0 : Int).toNat ((wrap64 (a0_0 + 1)) : Int).toNat) ++ t118) ++ (⟨#[32]⟩ : ByteArray)) ++ a0_2, true)) else (none)) else (if a0_0 = 1 then (if ((((⟨#[43, 45, 61]⟩ : ByteArray).extract (a0_0 : Int).toNat ((wrap64 (a0_0 + 1)) : Int).toNat) ++ t118) ++ (⟨#[32]⟩ : ByteArray)).size + a0_3.size ≤ 9223372036854775807 then (some (((((⟨#[43, 45, 61]⟩ : ByteArray).extract (a0_0 : Int).toNat ((wrap64 (a0_0 + 1)) : Int).toNat) ++ t118) ++ (⟨#[32]⟩ : ByteArray)) ++ a0_3, true)) else (none)) else (if a0_3.size + 1 ≤ 9223372036854775807 then (if (a0_3 ++ (⟨#[62]⟩ : ByteArray)).size + a0_2.size ≤ 9223372036854775807 then (if ((((⟨#[43, 45, 61]⟩ : ByteArray).extract (a0_0 : Int).toNat ((wrap64 (a0_0 + 1)) : Int).toNat) ++ t118) ++ (⟨#[32]⟩ : ByteArray)).size + ((a0_3 ++ (⟨#[62]⟩ : ByteArray)) ++ a0_2).size ≤ 9223372036854775807 then (some (((((⟨#[43, 45, 61]⟩ : ByteArray).extract (a0_0 : Int).toNat ((wrap64 (a0_0 + 1)) : Int).toNat) ++ t118) ++ (⟨#[32]⟩ : ByteArray)) ++ ((a0_3 ++ (⟨#[62]⟩ : ByteArray)) ++ a0_2), true)) else (none)) else (none)) else (none)))) else (none)) else (none))) else (none)) else (none)) else (none)) else (some ((⟨#[]⟩ : ByteArray), false)))
theorem spec_EditText.mono : ∀ a0 a1 a2 a3 k, LeO (spec_EditText.f k a0 a1 a2 a3) (spec_EditText.f (k + 1) a0 a1 a2 a3) := by
 intro a0 a1 a2 a3 k
 unfold spec_EditText.f
 repeat' first
   | (with_reducible exact spec_l1Num.mono _ _)
   | (with_reducible exact spec_unEdit.mono _ _ _ _ _)
   | (with_reducible exact LeO.refl _)
   | (with_reducible exact LeO.none _)
   | (with_reducible refine LeO.ite ?_ ?_)
   | (with_reducible refine LeO.bind ?_ (fun _ => ?_))
   | exact LeO.none _
   | refine LeO.ite ?_ ?_
   | refine LeO.bind ?_ (fun _ => ?_)
def spec_EditText.T3 : Bool × List (List Nat × List Nat) := (true, [([], []), ([0], [0]), ([], []), ([2], [2]), ([3], [3]), ([1, 4], [1, 4]), ([], []), ([6], [6]), ([7], [7]), ([5, 8], [5, 8]), ([9], [9]), ([10, 8, 0, 1, 2, 3, 4, 5, 6, 7, 8, 9, 10], [10])])
def spec_EditText.B3 : List Nat := [0, 1, 0, 4, 12, 31, 0, 64, 192, 511, 1023, 2047]
theorem spec_EditText.tab3 : rtab .any (opsOf Tryd.f5 3) = spec_EditText.T3 := by kernel_rfl
theorem spec_EditText.bits3 : waitsOk spec_EditText.T3.2 spec_EditText.B3 = true := by kernel_rfl
set_option maxHeartbeats 8000000 in
set_option maxRecDepth 100000 in
theorem spec_EditText.calls (k : Nat) (a0_0 : Int) (a0_1 : Int) (a0_2 : ByteArray) (a0_3 : ByteArray) (r1 : ByteArray) (r2 : Bool) (w : World) (h : spec_EditText.f k a0_0 a0_1 a0_2 a0_3 = some (r1, r2)) :
  Calls Tryd.prog 5 #[.agg #[.int .i64 a0_0, .int .i64 a0_1, .string a0_2, .string a0_3]] w fun e w' => e = .returned (.tuple #[.string r1, .bool r2]) ∧ Below w.heap.size w w' := by
 have hu27 := Tryd.underlying27
 have HB := Aside0.mk (Below.refl w.heap.size w)
 have H : ((spec_unEdit.f k a0_0 a0_1 a0_2 a0_3).bind fun t117 => (if t117 = true then (if 0 ≤ a0_0 then (if a0_0 ≤ (wrap64 (a0_0 + 1)) then (if (wrap64 (a0_0 + 1)) ≤ 3 then ((spec_l1Num.f k a0_1).bind fun t118 => (if ((⟨#[43, 45, 61]⟩ : ByteArray).extract (a0_0 : Int).toNat ((wrap64 (a0_0 + 1)) : Int).toNat).size + t118.size ≤ 9223372036854775807 then (if (((⟨#[43, 45, 61]⟩ : ByteArray).extract (a0_0 : Int).toNat ((wrap64 (a0_0 + 1)) : Int).toNat) ++ t118).size + 1 ≤ 9223372036854775807 then (if a0_0 = 0 then (if ((((⟨#[43, 45, 61]⟩ : ByteArray).extract (a0_0 : Int).toNat ((wrap64 (a0_0 + 1)) : Int).toNat) ++ t118) ++ (⟨#[32]⟩ : ByteArray)).size + a0_2.size ≤ 9223372036854775807 then (some (((((⟨#[43, 45, 61]⟩ : ByteArray).extract (a0_0 : Int).toNat ((wrap64 (a0_0 + 1)) : Int).toNat) ++ t118) ++ (⟨#[32]⟩ : ByteArray)) ++ a0_2, true)) else (none)) else (if a0_0 = 1 then (if ((((⟨#[43, 45, 61]⟩ : ByteArray).extract (a0_0 : Int).toNat ((wrap64 (a0_0 + 1)) : Int).toNat) ++ t118) ++ (⟨#[32]⟩ : ByteArray)).size + a0_3.size ≤ 9223372036854775807 then (some (((((⟨#[43, 45, 61]⟩ : ByteArray).extract (a0_0 : Int).toNat ((wrap64 (a0_0 + 1)) : Int).toNat) ++ t118) ++ (⟨#[32]⟩ : ByteArray)) ++ a0_3, true)) else (none)) else (if a0_3.size + 1 ≤ 9223372036854775807 then (if (a0_3 ++ (⟨#[62]⟩ : ByteArray)).size + a0_2.size ≤ 9223372036854775807 then (if ((((⟨#[43, 45, 61]⟩ : ByteArray).extract (a0_0 : Int).toNat ((wrap64 (a0_0 + 1)) : Int).toNat) ++ t118) ++ (⟨#[32]⟩ : ByteArray)).size + ((a0_3 ++ (⟨#[62]⟩ : ByteArray)) ++ a0_2).size ≤ 9223372036854775807 then (some (((((⟨#[43, 45, 61]⟩ : ByteArray).extract (a0_0 : Int).toNat ((wrap64 (a0_0 + 1)) : Int).toNat) ++ t118) ++ (⟨#[32]⟩ : ByteArray)) ++ ((a0_3 ++ (⟨#[62]⟩ : ByteArray)) ++ a0_2), true)) else (none)) else (none)) else (none)))) else (none)) else (none))) else (none)) else (none)) else (none)) else (some ((⟨#[]⟩ : ByteArray), false)))) = some (r1, r2) := h
 clear h
 replace H := Option.bind_eq_some_iff.mp H
 obtain ⟨t117, A20, H⟩ := H
 try dsimp only at H
 have A2 := Aside0.mk A20
 clear A20
 by_cases c3 : t117 = true
 ·subst c3
  have H1 : (if 0 ≤ a0_0 then (if a0_0 ≤ (wrap64 (a0_0 + 1)) then (if (wrap64 (a0_0 + 1)) ≤ 3 then ((spec_l1Num.f k a0_1).bind fun t118 => (if ((⟨#[43, 45, 61]⟩ : ByteArray).extract (a0_0 : Int).toNat ((wrap64 (a0_0 + 1)) : Int).toNat).size + t118.size ≤ 9223372036854775807 then (if (((⟨#[43, 45, 61]⟩ : ByteArray).extract (a0_0 : Int).toNat ((wrap64 (a0_0 + 1)) : Int).toNat) ++ t118).size + 1 ≤ 9223372036854775807 then (if a0_0 = 0 then (if ((((⟨#[43, 45, 61]⟩ : ByteArray).extract (a0_0 : Int).toNat ((wrap64 (a0_0 + 1)) : Int).toNat) ++ t118) ++ (⟨#[32]⟩ : ByteArray)).size + a0_2.size ≤ 9223372036854775807 then (some (((((⟨#[43, 45, 61]⟩ : ByteArray).extract (a0_0 : Int).toNat ((wrap64 (a0_0 + 1)) : Int).toNat) ++ t118) ++ (⟨#[32]⟩ : ByteArray)) ++ a0_2, true)) else (none)) else (if a0_0 = 1 then (if ((((⟨#[43, 45, 61]⟩ : ByteArray).extract (a0_0 : Int).toNat ((wrap64 (a0_0 + 1)) : Int).toNat) ++ t118) ++ (⟨#[32]⟩ : ByteArray)).size + a0_3.size ≤ 9223372036854775807 then (some (((((⟨#[43, 45, 61]⟩ : ByteArray).extract (a0_0 : Int).toNat ((wrap64 (a0_0 + 1)) : Int).toNat) ++ t118) ++ (⟨#[32]⟩ : ByteArray)) ++ a0_3, true)) else (none)) else (if a0_3.size + 1 ≤ 9223372036854775807 then (if (a0_3 ++ (⟨#[62]⟩ : ByteArray)).size + a0_2.size ≤ 9223372036854775807 then (if ((((⟨#[43, 45, 61]⟩ : ByteArray).extract (a0_0 : Int).toNat ((wrap64 (a0_0 + 1)) : Int).toNat) ++ t118) ++ (⟨#[32]⟩ : ByteArray)).size + ((a0_3 ++ (⟨#[62]⟩ : ByteArray)) ++ a0_2).size ≤ 9223372036854775807 then (some (((((⟨#[43, 45, 61]⟩ : ByteArray).extract (a0_0 : Int).toNat ((wrap64 (a0_0 + 1)) : Int).toNat) ++ t118) ++ (⟨#[32]⟩ : ByteArray)) ++ ((a0_3 ++ (⟨#[62]⟩ : ByteArray)) ++ a0_2), true)) else (none)) else (none)) else (none)))) else (none)) else (none))) else (none)) else (none)) else (none)) = some (r1, r2) := by rw [if_pos rfl] at H; exact H
  clear H
  have H := H1
  clear H1
  by_cases c4 : 0 ≤ a0_0
  ·rw [if_pos c4] at H
   have c4b0 := eq_true c4
   have c4b1 : decide (0 ≤ a0_0) = true := decide_eq_true c4
   clear c4
   by_cases c5 : a0_0 ≤ (wrap64 (a0_0 + 1))
   ·rw [if_pos c5] at H
    have c5b0 := eq_true c5
    have c5b1 : decide (a0_0 ≤ (wrap64 (a0_0 + 1))) = true := decide_eq_true c5
    by_cases c6 : (wrap64 (a0_0 + 1)) ≤ 3
    ·rw [if_pos c6] at H
     have c6b0 := eq_true c6
     have c6b1 : decide ((wrap64 (a0_0 + 1)) ≤ 3) = true := decide_eq_true c6
     replace H := Option.bind_eq_some_iff.mp H
     obtain ⟨t118, A70, H⟩ := H
     try dsimp only at H
     have A7 := Aside0.mk A70
     clear A70
     by_cases c8 : ((⟨#[43, 45, 61]⟩ : ByteArray).extract (a0_0 : Int).toNat ((wrap64 (a0_0 + 1)) : Int).toNat).size + t118.size ≤ 9223372036854775807
     ·rw [if_pos c8] at H
      have c8b0 := eq_true c8
      have c8b1 : decide (((⟨#[43, 45, 61]⟩ : ByteArray).extract (a0_0 : Int).toNat ((wrap64 (a0_0 + 1)) : Int).toNat).size + t118.size ≤ 9223372036854775807) = true := decide_eq_true c8
      try have c8b2 : (9223372036854775807 < ((⟨#[43, 45, 61]⟩ : ByteArray).extract (a0_0 : Int).toNat ((wrap64 (a0_0 + 1)) : Int).toNat).size + t118.size) = False := eq_false (Nat.not_lt.2 c8)
      (try have c8z : (9223372036854775807 < (wrap64 (a0_0 + 1)).toNat - a0_0.toNat + t118.size) = False := eq_false (by have h1_ := c8; have h2_ : wrap64 (a0_0 + 1) ≤ 3 := of_decide_eq_true (by assumption); have h3_ : (⟨#[43, 45, 61]⟩ : ByteArray).size = 3 := rfl; have h4_ : (⟨#[32]⟩ : ByteArray).size = 1 := rfl; have h5_ : (⟨#[62]⟩ : ByteArray).size = 1 := rfl; simp only [ByteArray.size_append, ByteArray.size_extract] at h1_; omega))
      by_cases c9 : (((⟨#[43, 45, 61]⟩ : ByteArray).extract (a0_0 : Int).toNat ((wrap64 (a0_0 + 1)) : Int).toNat) ++ t118).size + 1 ≤ 9223372036854775807
      ·rw [if_pos c9] at H
       have c9b0 := eq_true c9
       have c9b1 : decide ((((⟨#[43, 45, 61]⟩ : ByteArray).extract (a0_0 : Int).toNat ((wrap64 (a0_0 + 1)) : Int).toNat) ++ t118).size + 1 ≤ 9223372036854775807) = true := decide_eq_true c9
       try have c9b2 : (9223372036854775807 < (((⟨#[43, 45, 61]⟩ : ByteArray).extract (a0_0 : Int).toNat ((wrap64 (a0_0 + 1)) : Int).toNat) ++ t118).size + 1) = False := eq_false (Nat.not_lt.2 c9)
       (try have c9z : (9223372036854775807 < (wrap64 (a0_0 + 1)).toNat - a0_0.toNat + t118.size + 1) = False := eq_false (by have h1_ := c9; have h2_ : wrap64 (a0_0 + 1) ≤ 3 := of_decide_eq_true (by assumption); have h3_ : (⟨#[43, 45, 61]⟩ : ByteArray).size = 3 := rfl; have h4_ : (⟨#[32]⟩ : ByteArray).size = 1 := rfl; have h5_ : (⟨#[62]⟩ : ByteArray).size = 1 := rfl; simp only [ByteArray.size_append, ByteArray.size_extract] at h1_; omega))
       by_cases c10 : a0_0 = 0
       ·rw [if_pos c10] at H
        have c10b0 : (a0_0 == 0) = true := beq_iff_eq.mpr c10
        have c10b1 : (a0_0 != 0) = false := bne_eq_false_iff_eq.mpr c10
        clear c10
        by_cases c11 : ((((⟨#[43, 45, 61]⟩ : ByteArray).extract (a0_0 : Int).toNat ((wrap64 (a0_0 + 1)) : Int).toNat) ++ t118) ++ (⟨#[32]⟩ : ByteArray)).size + a0_2.size ≤ 9223372036854775807
        ·rw [if_pos c11] at H
         have c11b0 := eq_true c11
         have c11b1 : decide (((((⟨#[43, 45, 61]⟩ : ByteArray).extract (a0_0 : Int).toNat ((wrap64 (a0_0 + 1)) : Int).toNat) ++ t118) ++ (⟨#[32]⟩ : ByteArray)).size + a0_2.size ≤ 9223372036854775807) = true := decide_eq_true c11
         try have c11b2 : (9223372036854775807 < ((((⟨#[43, 45, 61]⟩ : ByteArray).extract (a0_0 : Int).toNat ((wrap64 (a0_0 + 1)) : Int).toNat) ++ t118) ++ (⟨#[32]⟩ : ByteArray)).size + a0_2.size) = False := eq_false (Nat.not_lt.2 c11)
         (try have c11z : (9223372036854775807 < (wrap64 (a0_0 + 1)).toNat - a0_0.toNat + t118.size + 1 + a0_2.size) = False := eq_false (by have h1_ := c11; have h2_ : wrap64 (a0_0 + 1) ≤ 3 := of_decide_eq_true (by assumption); have h3_ : (⟨#[43, 45, 61]⟩ : ByteArray).size = 3 := rfl; have h4_ : (⟨#[32]⟩ : ByteArray).size = 1 := rfl; have h5_ : (⟨#[62]⟩ : ByteArray).size = 1 := rfl; simp only [ByteArray.size_append, ByteArray.size_extract] at h1_; omega))
         simp only [Option.some.injEq, Prod.mk.injEq] at H
         obtain ⟨rfl, rfl⟩ := H
         go_enter Tryd.func5, Tryd.ntmps5
         try go_wp2_with (first | ((with_reducible refine gate_dst (N := 1) rfl ?_); refine box_event ?hg (N := 1) ?hd (cs := #[.int .i64 a0_0, .int .i64 a0_1, .string a0_2, .string a0_3]) (t := 27) ?hr ?_; (case hd => rfl); (case hg => rfl); (case hr => first | (go_simp; done) | (go_simp; rfl)); intro gb116 hg w12 hbox hb; have n0_ := Aside0.mk (bt_ HB hb); have n1_ := Aside0.mk (hbox); have n2_ := gz_ hg HB; have n3_ := gz_ hg HB; clear HB; have HB := n0_; have BK116 := n1_; have GW116 := n2_; have GE116 := n3_; clear n0_ n1_ n2_ n3_; clear hb hbox hg; have hcz13_0 := cz0_ BK116; have hcz13_1 := cz1_ BK116; have hcz13_2 := cz2_ BK116; have hcz13_3 := cz3_ BK116; have hfz13_0 := fz_ BK116 0; have hfz13_1 := fz_ BK116 1; have hfz13_2 := fz_ BK116 2; have hfz13_3 := fz_ BK116 3) | ((with_reducible refine gate_callee (f := 8) rfl ?_); refine goesL_ (some 6) rfl rfl Tryd.func8 (by kernel_rfl) rfl #[.agg #[.int .i64 a0_0, .int .i64 a0_1, .string a0_2, .string a0_3]] rfl args_ ?_; (with_reducible refine (spec_unEdit.calls k a0_0 a0_1 a0_2 a0_3 true _ A2.out).mono ?_); rintro e w14 ⟨rfl, hb⟩; refine ⟨_, rfl, ?_⟩; have n0_ := Aside0.mk (lb_ BK116 hb); have n1_ := Aside0.mk (below_step (bb1_ HB GE116) hb); clear BK116; clear HB; have BK116 := n0_; have HB := n1_; clear n0_ n1_; (try clear hb); (try clear hb2); (try clear hk); (try clear hi)))
         have n0_ := Aside0.mk (blk_drew BK116.out)
         have n1_ := Aside0.mk (below_drew1 HB.out)
         clear BK116
         clear HB
         have BK116 := n0_
         have HB := n1_
         clear n0_ n1_
         refine start_ (n := 12) (S := fun w' => w'.cell? ⟨gb116, 0, none⟩ = some (.int .i64 a0_0) ∧ w'.cell? ⟨gb116, 1, none⟩ = some (.int .i64 a0_1) ∧ w'.cell? ⟨gb116, 2, none⟩ = some (.string a0_2) ∧ w'.cell? ⟨gb116, 3, none⟩ = some (.string a0_3)) (ds := []) #[false, false, false, false, false, false, false, false, false, false, false, false] (by kernel_rfl) rfl rfl ⟨(blk_cell BK116.out 0).trans rfl, (blk_cell BK116.out 1).trans rfl, (blk_cell BK116.out 2).trans rfl, (blk_cell BK116.out 3).trans rfl⟩ (fun hHeld => ?_); refine with_tabW spec_EditText.tab3 spec_EditText.bits3 (fun HT_ HW_ => ?_)
         generalize w14.drew = w15 at BK116 HB hHeld ⊢
         refine pu_ (i := 0) (N := some 8) (v := ?_) (a' := ?_) #[true, false, false, false, false, false, false, false, false, false, false, false] rfl rfl (Or.inl ⟨by rfl, ?_⟩) ?_ ?_
         rotate_left
         ·intro w'
          go_simp
          with_reducible rfl
         rotate_left
         ·simp only [Act.put, sA_, sB_, sC_, i64_w, i32_w]
          rfl
         refine pu_ (i := 2) (N := some 10) (v := ?_) (a' := ?_) #[true, false, true, false, false, false, false, false, false, false, false, false] rfl rfl (Or.inl ⟨by rfl, ?_⟩) ?_ ?_
         rotate_left
         ·intro w'
          go_simp
          with_reducible rfl
         rotate_left
         ·simp only [Act.put, sA_, sB_, sC_, i64_w, i32_w]
          rfl
         refine pu_ (i := 6) (N := some 14) (v := ?_) (a' := ?_) #[true, false, true, false, false, false, true, false, false, false, false, false] rfl rfl (Or.inl ⟨by rfl, ?_⟩) ?_ ?_
         rotate_left
         ·intro w'
          go_simp
          with_reducible rfl
         rotate_left
         ·simp only [Act.put, sA_, sB_, sC_, i64_w, i32_w]
          rfl
         refine take_ (i := 1) (N := some 9) (v := ?_) (a' := ?_) #[true, true, true, false, false, false, true, false, false, false, false, false] rfl rfl (take_ofW HT_.out HW_.out (by kernel_rfl)) (fun _ _ _ h => h) (Or.inl ⟨by rfl, ?_⟩) hHeld ?_ ?_
         rotate_left
         ·rintro w' ⟨s0, s1, s2, s3⟩
          go_simp
          with_reducible rfl
         rotate_left
         ·simp only [Act.put, sA_, sB_, sC_, i64_w, i32_w]
          rfl
         refine take_ (i := 3) (N := some 11) (v := ?_) (a' := ?_) #[true, true, true, true, false, false, true, false, false, false, false, false] rfl rfl (take_ofW HT_.out HW_.out (by kernel_rfl)) (fun _ _ _ h => h) (Or.inl ⟨by rfl, ?_⟩) hHeld ?_ ?_
         rotate_left
         ·rintro w' ⟨s0, s1, s2, s3⟩
          go_simp
          with_reducible rfl
         rotate_left
         ·simp only [Act.put, sA_, sB_, sC_, i64_w, i32_w]
          rfl
         refine pu_ (i := 4) (N := some 12) (v := ?_) (a' := ?_) #[true, true, true, true, true, false, true, false, false, false, false, false] rfl rfl (Or.inl ⟨by rfl, ?_⟩) ?_ ?_
         rotate_left
         ·intro w'
          go_simp
          with_reducible rfl
         rotate_left
         ·simp only [Act.put, sA_, sB_, sC_, i64_w, i32_w]
          rfl
         refine pu_ (i := 5) (N := some 13) (v := ?_) (a' := ?_) #[true, true, true, true, true, true, true, false, false, false, false, false] rfl rfl (Or.inl ⟨by rfl, ?_⟩) ?_ ?_
         rotate_left
         ·intro w'
          go_simp
          with_reducible rfl
         rotate_left
         ·simp only [Act.put, sA_, sB_, sC_, i64_w, i32_w]
          rfl
         refine take_ (i := 7) (N := some 15) (v := ?_) (a' := ?_) #[true, true, true, true, true, true, true, true, false, false, false, false] rfl rfl (take_ofW HT_.out HW_.out (by kernel_rfl)) (fun _ _ _ h => h) (Or.inl ⟨by rfl, ?_⟩) hHeld ?_ ?_
         rotate_left
         ·rintro w' ⟨s0, s1, s2, s3⟩
          go_simp
          with_reducible rfl
         rotate_left
         ·simp only [Act.put, sA_, sB_, sC_, i64_w, i32_w]
          rfl
         refine one_ (i := 8) (N := some 16) #[true, true, true, true, true, true, true, true, true, false, false, false] rfl rfl (one_of HT_.out (by kernel_rfl)) (by decide) (fun K hK => ?_)
         refine goes_ Tryd.func9 (by kernel_rfl) rfl #[.int .i64 a0_1] (by rfl) rfl rfl args_ ?_
         with_reducible refine (spec_l1Num.calls k a0_1 t118 _ A7.out).mono ?_
         rintro e w16 ⟨rfl, hb⟩
         refine ⟨_, rfl, ?_⟩
         have n0_ := Aside0.mk (lb_ BK116 hb)
         have n1_ := Aside0.mk (below_step (bb1_ HB GE116) hb)
         clear BK116
         clear HB
         have BK116 := n0_
         have HB := n1_
         clear n0_ n1_
         (try clear hb)
         (try clear hb2)
         (try clear hk)
         (try clear hi)
         refine hK.out _ _ ⟨(blk_cell BK116.out 0).trans rfl, (blk_cell BK116.out 1).trans rfl, (blk_cell BK116.out 2).trans rfl, (blk_cell BK116.out 3).trans rfl⟩ (fun hHeld => ?_)
         clear hK K
         refine norm_ (a' := ?_) ?_ ?_
         rotate_left
         ·show Act.put _ (some 16) _ = _
          simp only [Act.put, sA_, sB_, sC_, i64_w, i32_w]
          rfl
         refine pu_ (i := 9) (N := some 17) (v := ?_) (a' := ?_) #[true, true, true, true, true, true, true, true, true, true, false, false] rfl rfl (Or.inl ⟨by rfl, ?_⟩) ?_ ?_
         rotate_left
         ·intro w'
          go_simp
          with_reducible rfl
         rotate_left
         ·simp only [Act.put, sA_, sB_, sC_, i64_w, i32_w]
          rfl
         refine pu_ (i := 10) (N := some 18) (v := ?_) (a' := ?_) #[true, true, true, true, true, true, true, true, true, true, true, false] rfl rfl (Or.inl ⟨by rfl, ?_⟩) ?_ ?_
         rotate_left
         ·intro w'
          go_simp
          with_reducible rfl
         rotate_left
         ·simp only [Act.put, sA_, sB_, sC_, i64_w, i32_w]
          rfl
         refine pu_ (i := 11) (N := some 4) (v := ?_) (a' := ?_) #[true, true, true, true, true, true, true, true, true, true, true, true] rfl rfl (Or.inl ⟨by rfl, ?_⟩) ?_ ?_
         rotate_left
         ·intro w'
          go_simp
          with_reducible rfl
         rotate_left
         ·simp only [Act.put, sA_, sB_, sC_, i64_w, i32_w]
          rfl
         refine done_ (done_of HT_.out (by kernel_rfl)) ?_
         have hcz17_0 := cz0_ BK116
         have hcz17_1 := cz1_ BK116
         have hcz17_2 := cz2_ BK116
         have hcz17_3 := cz3_ BK116
         have hfz17_0 := fz_ BK116 0
         have hfz17_1 := fz_ BK116 1
         have hfz17_2 := fz_ BK116 2
         have hfz17_3 := fz_ BK116 3
         try go_wp2
         go_ret2
         exact ⟨by first | rfl | (simp [errW_none, errW_some] <;> rfl) | (simp [*, errW_none, errW_some] <;> rfl), bb1_ HB GE116⟩
        ·rw [if_neg c11] at H
         exact absurd H (by simp)
       ·rw [if_neg c10] at H
        have c10b0 : (a0_0 == 0) = false := beq_eq_false_iff_ne.mpr c10
        have c10b1 : (a0_0 != 0) = true := bne_iff_ne.mpr c10
        by_cases c18 : a0_0 = 1
        ·rw [if_pos c18] at H
         have c18b0 : (a0_0 == 1) = true := beq_iff_eq.mpr c18
         have c18b1 : (a0_0 != 1) = false := bne_eq_false_iff_eq.mpr c18
         clear c18
         by_cases c19 : ((((⟨#[43, 45, 61]⟩ : ByteArray).extract (a0_0 : Int).toNat ((wrap64 (a0_0 + 1)) : Int).toNat) ++ t118) ++ (⟨#[32]⟩ : ByteArray)).size + a0_3.size ≤ 9223372036854775807
         ·rw [if_pos c19] at H
          have c19b0 := eq_true c19
          have c19b1 : decide (((((⟨#[43, 45, 61]⟩ : ByteArray).extract (a0_0 : Int).toNat ((wrap64 (a0_0 + 1)) : Int).toNat) ++ t118) ++ (⟨#[32]⟩ : ByteArray)).size + a0_3.size ≤ 9223372036854775807) = true := decide_eq_true c19
          try have c19b2 : (9223372036854775807 < ((((⟨#[43, 45, 61]⟩ : ByteArray).extract (a0_0 : Int).toNat ((wrap64 (a0_0 + 1)) : Int).toNat) ++ t118) ++ (⟨#[32]⟩ : ByteArray)).size + a0_3.size) = False := eq_false (Nat.not_lt.2 c19)
          (try have c19z : (9223372036854775807 < (wrap64 (a0_0 + 1)).toNat - a0_0.toNat + t118.size + 1 + a0_3.size) = False := eq_false (by have h1_ := c19; have h2_ : wrap64 (a0_0 + 1) ≤ 3 := of_decide_eq_true (by assumption); have h3_ : (⟨#[43, 45, 61]⟩ : ByteArray).size = 3 := rfl; have h4_ : (⟨#[32]⟩ : ByteArray).size = 1 := rfl; have h5_ : (⟨#[62]⟩ : ByteArray).size = 1 := rfl; simp only [ByteArray.size_append, ByteArray.size_extract] at h1_; omega))
          simp only [Option.some.injEq, Prod.mk.injEq] at H
          obtain ⟨rfl, rfl⟩ := H
          go_enter Tryd.func5, Tryd.ntmps5
          try go_wp2_with (first | ((with_reducible refine gate_dst (N := 1) rfl ?_); refine box_event ?hg (N := 1) ?hd (cs := #[.int .i64 a0_0, .int .i64 a0_1, .string a0_2, .string a0_3]) (t := 27) ?hr ?_; (case hd => rfl); (case hg => rfl); (case hr => first | (go_simp; done) | (go_simp; rfl)); intro gb116 hg w20 hbox hb; have n0_ := Aside0.mk (bt_ HB hb); have n1_ := Aside0.mk (hbox); have n2_ := gz_ hg HB; have n3_ := gz_ hg HB; clear HB; have HB := n0_; have BK116 := n1_; have GW116 := n2_; have GE116 := n3_; clear n0_ n1_ n2_ n3_; clear hb hbox hg; have hcz21_0 := cz0_ BK116; have hcz21_1 := cz1_ BK116; have hcz21_2 := cz2_ BK116; have hcz21_3 := cz3_ BK116; have hfz21_0 := fz_ BK116 0; have hfz21_1 := fz_ BK116 1; have hfz21_2 := fz_ BK116 2; have hfz21_3 := fz_ BK116 3) | ((with_reducible refine gate_callee (f := 8) rfl ?_); refine goesL_ (some 6) rfl rfl Tryd.func8 (by kernel_rfl) rfl #[.agg #[.int .i64 a0_0, .int .i64 a0_1, .string a0_2, .string a0_3]] rfl args_ ?_; (with_reducible refine (spec_unEdit.calls k a0_0 a0_1 a0_2 a0_3 true _ A2.out).mono ?_); rintro e w22 ⟨rfl, hb⟩; refine ⟨_, rfl, ?_⟩; have n0_ := Aside0.mk (lb_ BK116 hb); have n1_ := Aside0.mk (below_step (bb1_ HB GE116) hb); clear BK116; clear HB; have BK116 := n0_; have HB := n1_; clear n0_ n1_; (try clear hb); (try clear hb2); (try clear hk); (try clear hi)))
          have n0_ := Aside0.mk (blk_drew BK116.out)
          have n1_ := Aside0.mk (below_drew1 HB.out)
          clear BK116
          clear HB
          have BK116 := n0_
          have HB := n1_
          clear n0_ n1_
          refine start_ (n := 12) (S := fun w' => w'.cell? ⟨gb116, 0, none⟩ = some (.int .i64 a0_0) ∧ w'.cell? ⟨gb116, 1, none⟩ = some (.int .i64 a0_1) ∧ w'.cell? ⟨gb116, 2, none⟩ = some (.string a0_2) ∧ w'.cell? ⟨gb116, 3, none⟩ = some (.string a0_3)) (ds := []) #[false, false, false, false, false, false, false, false, false, false, false, false] (by kernel_rfl) rfl rfl ⟨(blk_cell BK116.out 0).trans rfl, (blk_cell BK116.out 1).trans rfl, (blk_cell BK116.out 2).trans rfl, (blk_cell BK116.out 3).trans rfl⟩ (fun hHeld => ?_); refine with_tabW spec_EditText.tab3 spec_EditText.bits3 (fun HT_ HW_ => ?_)
          generalize w22.drew = w23 at BK116 HB hHeld ⊢
          refine pu_ (i := 0) (N := some 8) (v := ?_) (a' := ?_) #[true, false, false, false, false, false, false, false, false, false, false, false] rfl rfl (Or.inl ⟨by rfl, ?_⟩) ?_ ?_
          rotate_left
          ·intro w'
           go_simp
           with_reducible rfl
          rotate_left
          ·simp only [Act.put, sA_, sB_, sC_, i64_w, i32_w]
           rfl
          refine pu_ (i := 2) (N := some 10) (v := ?_) (a' := ?_) #[true, false, true, false, false, false, false, false, false, false, false, false] rfl rfl (Or.inl ⟨by rfl, ?_⟩) ?_ ?_
          rotate_left
          ·intro w'
           go_simp
           with_reducible rfl
          rotate_left
          ·simp only [Act.put, sA_, sB_, sC_, i64_w, i32_w]
           rfl
          refine pu_ (i := 6) (N := some 14) (v := ?_) (a' := ?_) #[true, false, true, false, false, false, true, false, false, false, false, false] rfl rfl (Or.inl ⟨by rfl, ?_⟩) ?_ ?_
          rotate_left
          ·intro w'
           go_simp
           with_reducible rfl
          rotate_left
          ·simp only [Act.put, sA_, sB_, sC_, i64_w, i32_w]
           rfl
          refine take_ (i := 1) (N := some 9) (v := ?_) (a' := ?_) #[true, true, true, false, false, false, true, false, false, false, false, false] rfl rfl (take_ofW HT_.out HW_.out (by kernel_rfl)) (fun _ _ _ h => h) (Or.inl ⟨by rfl, ?_⟩) hHeld ?_ ?_
          rotate_left
          ·rintro w' ⟨s0, s1, s2, s3⟩
           go_simp
           with_reducible rfl
          rotate_left
          ·simp only [Act.put, sA_, sB_, sC_, i64_w, i32_w]
           rfl
          refine take_ (i := 3) (N := some 11) (v := ?_) (a' := ?_) #[true, true, true, true, false, false, true, false, false, false, false, false] rfl rfl (take_ofW HT_.out HW_.out (by kernel_rfl)) (fun _ _ _ h => h) (Or.inl ⟨by rfl, ?_⟩) hHeld ?_ ?_
          rotate_left
          ·rintro w' ⟨s0, s1, s2, s3⟩
           go_simp
           with_reducible rfl
          rotate_left
          ·simp only [Act.put, sA_, sB_, sC_, i64_w, i32_w]
           rfl
          refine pu_ (i := 4) (N := some 12) (v := ?_) (a' := ?_) #[true, true, true, true, true, false, true, false, false, false, false, false] rfl rfl (Or.inl ⟨by rfl, ?_⟩) ?_ ?_
          rotate_left
          ·intro w'
           go_simp
           with_reducible rfl
          rotate_left
          ·simp only [Act.put, sA_, sB_, sC_, i64_w, i32_w]
           rfl
          refine pu_ (i := 5) (N := some 13) (v := ?_) (a' := ?_) #[true, true, true, true, true, true, true, false, false, false, false, false] rfl rfl (Or.inl ⟨by rfl, ?_⟩) ?_ ?_
          rotate_left
          ·intro w'
           go_simp
           with_reducible rfl
          rotate_left
          ·simp only [Act.put, sA_, sB_, sC_, i64_w, i32_w]
           rfl
          refine take_ (i := 7) (N := some 15) (v := ?_) (a' := ?_) #[true, true, true, true, true, true, true, true, false, false, false, false] rfl rfl (take_ofW HT_.out HW_.out (by kernel_rfl)) (fun _ _ _ h => h) (Or.inl ⟨by rfl, ?_⟩) hHeld ?_ ?_
          rotate_left
          ·rintro w' ⟨s0, s1, s2, s3⟩
           go_simp
           with_reducible rfl
          rotate_left
          ·simp only [Act.put, sA_, sB_, sC_, i64_w, i32_w]
           rfl
          refine one_ (i := 8) (N := some 16) #[true, true, true, true, true, true, true, true, true, false, false, false] rfl rfl (one_of HT_.out (by kernel_rfl)) (by decide) (fun K hK => ?_)
          refine goes_ Tryd.func9 (by kernel_rfl) rfl #[.int .i64 a0_1] (by rfl) rfl rfl args_ ?_
          with_reducible refine (spec_l1Num.calls k a0_1 t118 _ A7.out).mono ?_
          rintro e w24 ⟨rfl, hb⟩
          refine ⟨_, rfl, ?_⟩
          have n0_ := Aside0.mk (lb_ BK116 hb)
          have n1_ := Aside0.mk (below_step (bb1_ HB GE116) hb)
          clear BK116
          clear HB
          have BK116 := n0_
          have HB := n1_
          clear n0_ n1_
          (try clear hb)
          (try clear hb2)
          (try clear hk)
          (try clear hi)
          refine hK.out _ _ ⟨(blk_cell BK116.out 0).trans rfl, (blk_cell BK116.out 1).trans rfl, (blk_cell BK116.out 2).trans rfl, (blk_cell BK116.out 3).trans rfl⟩ (fun hHeld => ?_)
          clear hK K
          refine norm_ (a' := ?_) ?_ ?_
          rotate_left
          ·show Act.put _ (some 16) _ = _
           simp only [Act.put, sA_, sB_, sC_, i64_w, i32_w]
           rfl
          refine pu_ (i := 9) (N := some 17) (v := ?_) (a' := ?_) #[true, true, true, true, true, true, true, true, true, true, false, false] rfl rfl (Or.inl ⟨by rfl, ?_⟩) ?_ ?_
          rotate_left
          ·intro w'
           go_simp
           with_reducible rfl
          rotate_left
          ·simp only [Act.put, sA_, sB_, sC_, i64_w, i32_w]
           rfl
          refine pu_ (i := 10) (N := some 18) (v := ?_) (a' := ?_) #[true, true, true, true, true, true, true, true, true, true, true, false] rfl rfl (Or.inl ⟨by rfl, ?_⟩) ?_ ?_
          rotate_left
          ·intro w'
           go_simp
           with_reducible rfl
          rotate_left
          ·simp only [Act.put, sA_, sB_, sC_, i64_w, i32_w]
           rfl
          refine pu_ (i := 11) (N := some 4) (v := ?_) (a' := ?_) #[true, true, true, true, true, true, true, true, true, true, true, true] rfl rfl (Or.inl ⟨by rfl, ?_⟩) ?_ ?_
          rotate_left
          ·intro w'
           go_simp
           with_reducible rfl
          rotate_left
          ·simp only [Act.put, sA_, sB_, sC_, i64_w, i32_w]
           rfl
          refine done_ (done_of HT_.out (by kernel_rfl)) ?_
          have hcz25_0 := cz0_ BK116
          have hcz25_1 := cz1_ BK116
          have hcz25_2 := cz2_ BK116
          have hcz25_3 := cz3_ BK116
          have hfz25_0 := fz_ BK116 0
          have hfz25_1 := fz_ BK116 1
          have hfz25_2 := fz_ BK116 2
          have hfz25_3 := fz_ BK116 3
          try go_wp2
          go_ret2
          exact ⟨by first | rfl | (simp [errW_none, errW_some] <;> rfl) | (simp [*, errW_none, errW_some] <;> rfl), bb1_ HB GE116⟩
         ·rw [if_neg c19] at H
          exact absurd H (by simp)
        ·rw [if_neg c18] at H
         have c18b0 : (a0_0 == 1) = false := beq_eq_false_iff_ne.mpr c18
         have c18b1 : (a0_0 != 1) = true := bne_iff_ne.mpr c18
         by_cases c26 : a0_3.size + 1 ≤ 9223372036854775807
         ·rw [if_pos c26] at H
          have c26b0 := eq_true c26
          have c26b1 : decide (a0_3.size + 1 ≤ 9223372036854775807) = true := decide_eq_true c26
          try have c26b2 : (9223372036854775807 < a0_3.size + 1) = False := eq_false (Nat.not_lt.2 c26)
          by_cases c27 : (a0_3 ++ (⟨#[62]⟩ : ByteArray)).size + a0_2.size ≤ 9223372036854775807
          ·rw [if_pos c27] at H
           have c27b0 := eq_true c27
           have c27b1 : decide ((a0_3 ++ (⟨#[62]⟩ : ByteArray)).size + a0_2.size ≤ 9223372036854775807) = true := decide_eq_true c27
           try have c27b2 : (9223372036854775807 < (a0_3 ++ (⟨#[62]⟩ : ByteArray)).size + a0_2.size) = False := eq_false (Nat.not_lt.2 c27)
           by_cases c28 : ((((⟨#[43, 45, 61]⟩ : ByteArray).extract (a0_0 : Int).toNat ((wrap64 (a0_0 + 1)) : Int).toNat) ++ t118) ++ (⟨#[32]⟩ : ByteArray)).size + ((a0_3 ++ (⟨#[62]⟩ : ByteArray)) ++ a0_2).size ≤ 9223372036854775807
           ·rw [if_pos c28] at H
            have c28b0 := eq_true c28
            have c28b1 : decide (((((⟨#[43, 45, 61]⟩ : ByteArray).extract (a0_0 : Int).toNat ((wrap64 (a0_0 + 1)) : Int).toNat) ++ t118) ++ (⟨#[32]⟩ : ByteArray)).size + ((a0_3 ++ (⟨#[62]⟩ : ByteArray)) ++ a0_2).size ≤ 9223372036854775807) = true := decide_eq_true c28
            try have c28b2 : (9223372036854775807 < ((((⟨#[43, 45, 61]⟩ : ByteArray).extract (a0_0 : Int).toNat ((wrap64 (a0_0 + 1)) : Int).toNat) ++ t118) ++ (⟨#[32]⟩ : ByteArray)).size + ((a0_3 ++ (⟨#[62]⟩ : ByteArray)) ++ a0_2).size) = False := eq_false (Nat.not_lt.2 c28)
            (try have c28z : (9223372036854775807 < (wrap64 (a0_0 + 1)).toNat - a0_0.toNat + t118.size + 1 + (a0_3.size + 1 + a0_2.size)) = False := eq_false (by have h1_ := c28; have h2_ : wrap64 (a0_0 + 1) ≤ 3 := of_decide_eq_true (by assumption); have h3_ : (⟨#[43, 45, 61]⟩ : ByteArray).size = 3 := rfl; have h4_ : (⟨#[32]⟩ : ByteArray).size = 1 := rfl; have h5_ : (⟨#[62]⟩ : ByteArray).size = 1 := rfl; simp only [ByteArray.size_append, ByteArray.size_extract] at h1_; omega))
            simp only [Option.some.injEq, Prod.mk.injEq] at H
            obtain ⟨rfl, rfl⟩ := H
            go_enter Tryd.func5, Tryd.ntmps5
            try go_wp2_with (first | ((with_reducible refine gate_dst (N := 1) rfl ?_); refine box_event ?hg (N := 1) ?hd (cs := #[.int .i64 a0_0, .int .i64 a0_1, .string a0_2, .string a0_3]) (t := 27) ?hr ?_; (case hd => rfl); (case hg => rfl); (case hr => first | (go_simp; done) | (go_simp; rfl)); intro gb116 hg w29 hbox hb; have n0_ := Aside0.mk (bt_ HB hb); have n1_ := Aside0.mk (hbox); have n2_ := gz_ hg HB; have n3_ := gz_ hg HB; clear HB; have HB := n0_; have BK116 := n1_; have GW116 := n2_; have GE116 := n3_; clear n0_ n1_ n2_ n3_; clear hb hbox hg; have hcz30_0 := cz0_ BK116; have hcz30_1 := cz1_ BK116; have hcz30_2 := cz2_ BK116; have hcz30_3 := cz3_ BK116; have hfz30_0 := fz_ BK116 0; have hfz30_1 := fz_ BK116 1; have hfz30_2 := fz_ BK116 2; have hfz30_3 := fz_ BK116 3) | ((with_reducible refine gate_callee (f := 8) rfl ?_); refine goesL_ (some 6) rfl rfl Tryd.func8 (by kernel_rfl) rfl #[.agg #[.int .i64 a0_0, .int .i64 a0_1, .string a0_2, .string a0_3]] rfl args_ ?_; (with_reducible refine (spec_unEdit.calls k a0_0 a0_1 a0_2 a0_3 true _ A2.out).mono ?_); rintro e w31 ⟨rfl, hb⟩; refine ⟨_, rfl, ?_⟩; have n0_ := Aside0.mk (lb_ BK116 hb); have n1_ := Aside0.mk (below_step (bb1_ HB GE116) hb); clear BK116; clear HB; have BK116 := n0_; have HB := n1_; clear n0_ n1_; (try clear hb); (try clear hb2); (try clear hk); (try clear hi)))
            have n0_ := Aside0.mk (blk_drew BK116.out)
            have n1_ := Aside0.mk (below_drew1 HB.out)
            clear BK116
            clear HB
            have BK116 := n0_
            have HB := n1_
            clear n0_ n1_
            refine start_ (n := 12) (S := fun w' => w'.cell? ⟨gb116, 0, none⟩ = some (.int .i64 a0_0) ∧ w'.cell? ⟨gb116, 1, none⟩ = some (.int .i64 a0_1) ∧ w'.cell? ⟨gb116, 2, none⟩ = some (.string a0_2) ∧ w'.cell? ⟨gb116, 3, none⟩ = some (.string a0_3)) (ds := []) #[false, false, false, false, false, false, false, false, false, false, false, false] (by kernel_rfl) rfl rfl ⟨(blk_cell BK116.out 0).trans rfl, (blk_cell BK116.out 1).trans rfl, (blk_cell BK116.out 2).trans rfl, (blk_cell BK116.out 3).trans rfl⟩ (fun hHeld => ?_); refine with_tabW spec_EditText.tab3 spec_EditText.bits3 (fun HT_ HW_ => ?_)
            generalize w31.drew = w32 at BK116 HB hHeld ⊢
            refine pu_ (i := 0) (N := some 8) (v := ?_) (a' := ?_) #[true, false, false, false, false, false, false, false, false, false, false, false] rfl rfl (Or.inl ⟨by rfl, ?_⟩) ?_ ?_
            rotate_left
            ·intro w'
             go_simp
             with_reducible rfl
            rotate_left
            ·simp only [Act.put, sA_, sB_, sC_, i64_w, i32_w]
             rfl
            refine pu_ (i := 2) (N := some 10) (v := ?_) (a' := ?_) #[true, false, true, false, false, false, false, false, false, false, false, false] rfl rfl (Or.inl ⟨by rfl, ?_⟩) ?_ ?_
            rotate_left
            ·intro w'
             go_simp
             with_reducible rfl
            rotate_left
            ·simp only [Act.put, sA_, sB_, sC_, i64_w, i32_w]
             rfl
            refine pu_ (i := 6) (N := some 14) (v := ?_) (a' := ?_) #[true, false, true, false, false, false, true, false, false, false, false, false] rfl rfl (Or.inl ⟨by rfl, ?_⟩) ?_ ?_
            rotate_left
            ·intro w'
             go_simp
             with_reducible rfl
            rotate_left
            ·simp only [Act.put, sA_, sB_, sC_, i64_w, i32_w]
             rfl
            refine take_ (i := 1) (N := some 9) (v := ?_) (a' := ?_) #[true, true, true, false, false, false, true, false, false, false, false, false] rfl rfl (take_ofW HT_.out HW_.out (by kernel_rfl)) (fun _ _ _ h => h) (Or.inl ⟨by rfl, ?_⟩) hHeld ?_ ?_
            rotate_left
            ·rintro w' ⟨s0, s1, s2, s3⟩
             go_simp
             with_reducible rfl
            rotate_left
            ·simp only [Act.put, sA_, sB_, sC_, i64_w, i32_w]
             rfl
            refine take_ (i := 3) (N := some 11) (v := ?_) (a' := ?_) #[true, true, true, true, false, false, true, false, false, false, false, false] rfl rfl (take_ofW HT_.out HW_.out (by kernel_rfl)) (fun _ _ _ h => h) (Or.inl ⟨by rfl, ?_⟩) hHeld ?_ ?_
            rotate_left
            ·rintro w' ⟨s0, s1, s2, s3⟩
             go_simp
             with_reducible rfl
            rotate_left
            ·simp only [Act.put, sA_, sB_, sC_, i64_w, i32_w]
             rfl
            refine pu_ (i := 4) (N := some 12) (v := ?_) (a' := ?_) #[true, true, true, true, true, false, true, false, false, false, false, false] rfl rfl (Or.inl ⟨by rfl, ?_⟩) ?_ ?_
            rotate_left
            ·intro w'
             go_simp
             with_reducible rfl
            rotate_left
            ·simp only [Act.put, sA_, sB_, sC_, i64_w, i32_w]
             rfl
            refine pu_ (i := 5) (N := some 13) (v := ?_) (a' := ?_) #[true, true, true, true, true, true, true, false, false, false, false, false] rfl rfl (Or.inl ⟨by rfl, ?_⟩) ?_ ?_
            rotate_left
            ·intro w'
             go_simp
             with_reducible rfl
            rotate_left
            ·simp only [Act.put, sA_, sB_, sC_, i64_w, i32_w]
             rfl
            refine take_ (i := 7) (N := some 15) (v := ?_) (a' := ?_) #[true, true, true, true, true, true, true, true, false, false, false, false] rfl rfl (take_ofW HT_.out HW_.out (by kernel_rfl)) (fun _ _ _ h => h) (Or.inl ⟨by rfl, ?_⟩) hHeld ?_ ?_
            rotate_left
            ·rintro w' ⟨s0, s1, s2, s3⟩
             go_simp
             with_reducible rfl
            rotate_left
            ·simp only [Act.put, sA_, sB_, sC_, i64_w, i32_w]
             rfl
            refine one_ (i := 8) (N := some 16) #[true, true, true, true, true, true, true, true, true, false, false, false] rfl rfl (one_of HT_.out (by kernel_rfl)) (by decide) (fun K hK => ?_)
            refine goes_ Tryd.func9 (by kernel_rfl) rfl #[.int .i64 a0_1] (by rfl) rfl rfl args_ ?_
            with_reducible refine (spec_l1Num.calls k a0_1 t118 _ A7.out).mono ?_
            rintro e w33 ⟨rfl, hb⟩
            refine ⟨_, rfl, ?_⟩
            have n0_ := Aside0.mk (lb_ BK116 hb)
            have n1_ := Aside0.mk (below_step (bb1_ HB GE116) hb)
            clear BK116
            clear HB
            have BK116 := n0_
            have HB := n1_
            clear n0_ n1_
            (try clear hb)
            (try clear hb2)
            (try clear hk)
            (try clear hi)
            refine hK.out _ _ ⟨(blk_cell BK116.out 0).trans rfl, (blk_cell BK116.out 1).trans rfl, (blk_cell BK116.out 2).trans rfl, (blk_cell BK116.out 3).trans rfl⟩ (fun hHeld => ?_)
            clear hK K
            refine norm_ (a' := ?_) ?_ ?_
            rotate_left
            ·show Act.put _ (some 16) _ = _
             simp only [Act.put, sA_, sB_, sC_, i64_w, i32_w]
             rfl
            refine pu_ (i := 9) (N := some 17) (v := ?_) (a' := ?_) #[true, true, true, true, true, true, true, true, true, true, false, false] rfl rfl (Or.inl ⟨by rfl, ?_⟩) ?_ ?_
            rotate_left
            ·intro w'
             go_simp
             with_reducible rfl
            rotate_left
            ·simp only [Act.put, sA_, sB_, sC_, i64_w, i32_w]
             rfl
            refine pu_ (i := 10) (N := some 18) (v := ?_) (a' := ?_) #[true, true, true, true, true, true, true, true, true, true, true, false] rfl rfl (Or.inl ⟨by rfl, ?_⟩) ?_ ?_
            rotate_left
            ·intro w'
             go_simp
             with_reducible rfl
            rotate_left
            ·simp only [Act.put, sA_, sB_, sC_, i64_w, i32_w]
             rfl
            refine pu_ (i := 11) (N := some 4) (v := ?_) (a' := ?_) #[true, true, true, true, true, true, true, true, true, true, true, true] rfl rfl (Or.inl ⟨by rfl, ?_⟩) ?_ ?_
            rotate_left
            ·intro w'
             go_simp
             with_reducible rfl
            rotate_left
            ·simp only [Act.put, sA_, sB_, sC_, i64_w, i32_w]
             rfl
            refine done_ (done_of HT_.out (by kernel_rfl)) ?_
            have hcz34_0 := cz0_ BK116
            have hcz34_1 := cz1_ BK116
            have hcz34_2 := cz2_ BK116
            have hcz34_3 := cz3_ BK116
            have hfz34_0 := fz_ BK116 0
            have hfz34_1 := fz_ BK116 1
            have hfz34_2 := fz_ BK116 2
            have hfz34_3 := fz_ BK116 3
            try go_wp2
            go_ret2
            exact ⟨by first | rfl | (simp [errW_none, errW_some] <;> rfl) | (simp [*, errW_none, errW_some] <;> rfl), bb1_ HB GE116⟩
           ·rw [if_neg c28] at H
            exact absurd H (by simp)
          ·rw [if_neg c27] at H
           exact absurd H (by simp)
         ·rw [if_neg c26] at H
          exact absurd H (by simp)
      ·rw [if_neg c9] at H
       exact absurd H (by simp)
     ·rw [if_neg c8] at H
      exact absurd H (by simp)
    ·rw [if_neg c6] at H
     exact absurd H (by simp)
   ·rw [if_neg c5] at H
    exact absurd H (by simp)
  ·rw [if_neg c4] at H
   exact absurd H (by simp)
 ·replace c3 := Bool.eq_false_iff.mpr c3
  subst c3
  have H1 : (some ((⟨#[]⟩ : ByteArray), false)) = some (r1, r2) := by rw [if_neg (show ¬ (false = true) by decide)] at H; exact H
  clear H
  have H := H1
  clear H1
  simp only [Option.some.injEq, Prod.mk.injEq] at H
  obtain ⟨rfl, rfl⟩ := H
  go_enter Tryd.func5, Tryd.ntmps5
  go_wp2_with (first | ((with_reducible refine gate_dst (N := 1) rfl ?_); refine box_event ?hg (N := 1) ?hd (cs := #[.int .i64 a0_0, .int .i64 a0_1, .string a0_2, .string a0_3]) (t := 27) ?hr ?_; (case hd => rfl); (case hg => rfl); (case hr => first | (go_simp; done) | (go_simp; rfl)); intro gb116 hg w35 hbox hb; have n0_ := Aside0.mk (bt_ HB hb); have n1_ := Aside0.mk (hbox); have n2_ := gz_ hg HB; have n3_ := gz_ hg HB; clear HB; have HB := n0_; have BK116 := n1_; have GW116 := n2_; have GE116 := n3_; clear n0_ n1_ n2_ n3_; clear hb hbox hg; have hcz36_0 := cz0_ BK116; have hcz36_1 := cz1_ BK116; have hcz36_2 := cz2_ BK116; have hcz36_3 := cz3_ BK116; have hfz36_0 := fz_ BK116 0; have hfz36_1 := fz_ BK116 1; have hfz36_2 := fz_ BK116 2; have hfz36_3 := fz_ BK116 3) | ((with_reducible refine gate_callee (f := 8) rfl ?_); refine goesL_ (some 6) rfl rfl Tryd.func8 (by kernel_rfl) rfl #[.agg #[.int .i64 a0_0, .int .i64 a0_1, .string a0_2, .string a0_3]] rfl args_ ?_; (with_reducible refine (spec_unEdit.calls k a0_0 a0_1 a0_2 a0_3 false _ A2.out).mono ?_); rintro e w37 ⟨rfl, hb⟩; refine ⟨_, rfl, ?_⟩; have n0_ := Aside0.mk (lb_ BK116 hb); have n1_ := Aside0.mk (below_step (bb1_ HB GE116) hb); clear BK116; clear HB; have BK116 := n0_; have HB := n1_; clear n0_ n1_; (try clear hb); (try clear hb2); (try clear hk); (try clear hi)))
  go_ret2
  exact ⟨by first | rfl | (simp [errW_none, errW_some] <;> rfl) | (simp [*, errW_none, errW_some] <;> rfl), bb1_ HB GE116⟩

/-! ### laws_toDeskEdit: function 6 -/
def laws_toDeskEdit.f (a0_0 : Int) (a0_1 : Int) (a0_2 : ByteArray) (a0_3 : ByteArray) : Option (Int × Int × ByteArray × ByteArray) := some (a0_0, a0_1, a0_2, a0_3)
set_option maxHeartbeats 8000000 in
set_option maxRecDepth 100000 in
theorem laws_toDeskEdit.calls (a0_0 : Int) (a0_1 : Int) (a0_2 : ByteArray) (a0_3 : ByteArray) (r1 : Int) (r2 : Int) (r3 : ByteArray) (r4 : ByteArray) (w : World) (h : laws_toDeskEdit.f a0_0 a0_1 a0_2 a0_3 = some (r1, r2, r3, r4)) :
  Calls Tryd.prog 6 #[.agg #[.int .i64 a0_0, .int .i64 a0_1, .string a0_2, .string a0_3]] w fun e w' => e = .returned (.agg #[.int .i64 r1, .int .i64 r2, .string r3, .string r4]) ∧ Below w.heap.size w w' := by
 have hu23 := Tryd.underlying23
 have hu27 := Tryd.underlying27
 have HB := Aside0.mk (Below.refl w.heap.size w)
 have H : (some (a0_0, a0_1, a0_2, a0_3)) = some (r1, r2, r3, r4) := h
 clear h
 simp only [Option.some.injEq, Prod.mk.injEq] at H
 obtain ⟨rfl, rfl, rfl, rfl⟩ := H
 go_enter Tryd.func6, Tryd.ntmps6
 go_wp2_with (first | ((with_reducible refine gate_dst (N := 1) rfl ?_); refine box_event ?hg (N := 1) ?hd (cs := #[.int .i64 a0_0, .int .i64 a0_1, .string a0_2, .string a0_3]) (t := 23) ?hr ?_; (case hd => rfl); (case hg => rfl); (case hr => first | (go_simp; done) | (go_simp; rfl)); intro gb119 hg w2 hbox hb; have n0_ := Aside0.mk (bt_ HB hb); have n1_ := Aside0.mk (hbox); have n2_ := gz_ hg HB; have n3_ := gz_ hg HB; clear HB; have HB := n0_; have BK119 := n1_; have GW119 := n2_; have GE119 := n3_; clear n0_ n1_ n2_ n3_; clear hb hbox hg) | ((with_reducible refine gate_dst (N := 2) rfl ?_); refine box_event ?hg (N := 2) ?hd (cs := #[.int .i64 0, .int .i64 0, .string (⟨#[]⟩ : ByteArray), .string (⟨#[]⟩ : ByteArray)]) (t := 27) ?hr ?_; (case hd => rfl); (case hg => rfl); (case hr => first | (go_simp; done) | (go_simp; rfl)); intro gb120 hg w3 hbox hb; have n0_ := Aside0.mk (lb_ BK119 hb); have n1_ := Aside0.mk (below_step (bb1_ HB GE119) hb); have n2_ := Aside0.mk (hbox); have n3_ := gy_ hg (bb1_ HB GE119); have n4_ := gy_ hg (bb1_ HB GE119); have n5_ := nl_ hg BK119; have n6_ := ng_ hg BK119; clear BK119; clear HB; have BK119 := n0_; have HB := n1_; have BK120 := n2_; have GW120 := n3_; have GE120 := n4_; have NB119_120 := n5_; have NB120_119 := n6_; clear n0_ n1_ n2_ n3_ n4_ n5_ n6_; clear hb hbox hg) | ((with_reducible refine gate_dst (N := 3) rfl ?_); refine box_event ?hg (N := 3) ?hd (cs := #[.int .i64 0, .int .i64 0, .string (⟨#[]⟩ : ByteArray), .string (⟨#[]⟩ : ByteArray)]) (t := 27) ?hr ?_; (case hd => rfl); (case hg => rfl); (case hr => first | (go_simp; done) | (go_simp; rfl)); intro gb121 hg w4 hbox hb; have n0_ := Aside0.mk (lb_ BK119 hb); have n1_ := Aside0.mk (blk_below (g := gb120) (o := .cells #[.int .i64 0, .int .i64 0, .string (⟨#[]⟩ : ByteArray), .string (⟨#[]⟩ : ByteArray)] 27 (0, 0)) (la_ BK120) hb); have n2_ := Aside0.mk (below_step (bb2_ HB GE119 GE120) hb); have n3_ := Aside0.mk (hbox); have n4_ := gy_ hg (bb2_ HB GE119 GE120); have n5_ := gy_ hg (bb2_ HB GE119 GE120); have n6_ := nl_ hg BK119; have n7_ := ng_ hg BK119; have n8_ := Aside0.mk ((by rw [hg]; exact Nat.ne_of_lt (blk_lt (g := gb120) (o := .cells #[.int .i64 0, .int .i64 0, .string (⟨#[]⟩ : ByteArray), .string (⟨#[]⟩ : ByteArray)] 27 (0, 0)) (la_ BK120)) : gb120 ≠ gb121)); have n9_ := Aside0.mk ((by rw [hg]; exact Nat.ne_of_gt (blk_lt (g := gb120) (o := .cells #[.int .i64 0, .int .i64 0, .string (⟨#[]⟩ : ByteArray), .string (⟨#[]⟩ : ByteArray)] 27 (0, 0)) (la_ BK120)) : gb121 ≠ gb120)); clear BK119; clear BK120; clear HB; have BK119 := n0_; have BK120 := n1_; have HB := n2_; have BK121 := n3_; have GW121 := n4_; have GE121 := n5_; have NB119_121 := n6_; have NB121_119 := n7_; have NB120_121 := n8_; have NB121_120 := n9_; clear n0_ n1_ n2_ n3_ n4_ n5_ n6_ n7_ n8_ n9_; clear hb hbox hg; have hnb5 := NB119_120.out; have hnc5 := NB120_119.out; have hnb6 := NB119_121.out; have hnc6 := NB121_119.out; have hcz7_0 := cz0_ BK119; have hcz7_1 := cz1_ BK119; have hcz7_2 := cz2_ BK119; have hcz7_3 := cz3_ BK119; have hfz7_0 := fz_ BK119 0; have hfz7_1 := fz_ BK119 1; have hfz7_2 := fz_ BK119 2; have hfz7_3 := fz_ BK119 3; have hnb8 := NB121_120.out; have hnc8 := NB120_121.out; have hcz9_0 := cz0_ BK121; have hcz9_1 := cz1_ BK121; have hcz9_2 := cz2_ BK121; have hcz9_3 := cz3_ BK121; have hfz9_0 := fz_ BK121 0; have hfz9_1 := fz_ BK121 1; have hfz9_2 := fz_ BK121 2; have hfz9_3 := fz_ BK121 3; have hcz10_0 := cz0_ BK120; have hcz10_1 := cz1_ BK120; have hcz10_2 := cz2_ BK120; have hcz10_3 := cz3_ BK120; have hfz10_0 := fz_ BK120 0; have hfz10_1 := fz_ BK120 1; have hfz10_2 := fz_ BK120 2; have hfz10_3 := fz_ BK120 3))
 refine bodyPost_ret (results_cell_row rfl _ _ gb120 27 #[.int .i64 a0_0, .int .i64 a0_1, .string a0_2, .string a0_3] (0, 0) _ rfl (by (with_reducible repeat (first | apply lN_ | apply lD_ | apply lA_)); refine blk_put (cs := #[.int .i64 a0_0, .int .i64 a0_1, .string a0_2, .string (⟨#[]⟩ : ByteArray)]) ?_ 3 _ rfl; (with_reducible repeat (first | apply lN_ | apply lD_ | apply lA_)); refine blk_put (cs := #[.int .i64 a0_0, .int .i64 a0_1, .string (⟨#[]⟩ : ByteArray), .string (⟨#[]⟩ : ByteArray)]) ?_ 2 _ rfl; (with_reducible repeat (first | apply lN_ | apply lD_ | apply lA_)); refine blk_put (cs := #[.int .i64 a0_0, .int .i64 0, .string (⟨#[]⟩ : ByteArray), .string (⟨#[]⟩ : ByteArray)]) ?_ 1 _ rfl; (with_reducible repeat (first | apply lN_ | apply lD_ | apply lA_)); refine blk_put (cs := #[.int .i64 0, .int .i64 0, .string (⟨#[]⟩ : ByteArray), .string (⟨#[]⟩ : ByteArray)]) ?_ 0 _ rfl; (with_reducible repeat (first | apply lN_ | apply lD_ | apply lA_)); refine blk_far ?_ NB120_121.out _; (with_reducible repeat (first | apply lN_ | apply lD_ | apply lA_)); refine blk_far ?_ NB120_121.out _; (with_reducible repeat (first | apply lN_ | apply lD_ | apply lA_)); refine blk_far ?_ NB120_121.out _; (with_reducible repeat (first | apply lN_ | apply lD_ | apply lA_)); refine blk_far ?_ NB120_121.out _; (with_reducible repeat (first | apply lN_ | apply lD_ | apply lA_)); exact BK120.out) Tryd.underlying27 rfl (by kernel_rfl)) rfl ?_
 exact ⟨by first | rfl | (simp [errW_none, errW_some] <;> rfl) | (simp [*, errW_none, errW_some] <;> rfl), bb3_ HB GE119 GE120 GE121⟩

/-! ### impl_within: function 14 -/
def impl_within.f (a0 : Int) (a1 : Int) (a2 : Int) : Option (Bool) := if a0 ≥ a1 then (some (decide (a0 ≤ a2))) else (some false)
set_option maxHeartbeats 8000000 in
set_option maxRecDepth 100000 in
theorem impl_within.calls (a0 : Int) (a1 : Int) (a2 : Int) (r : Bool) (w : World) (h : impl_within.f a0 a1 a2 = some r) :
  Calls Tryd.prog 14 #[.int .i64 a0, .int .i64 a1, .int .i64 a2] w fun e w' => e = .returned (.bool r) ∧ Drawn0 w w' := by
 have H : (if a0 ≥ a1 then (some (decide (a0 ≤ a2))) else (some false)) = some r := h
 clear h
 by_cases c4 : a0 ≥ a1
 ·rw [if_pos c4] at H
  have c4b0 : decide (a1 ≤ a0) = true := decide_eq_true c4
  clear c4
  obtain rfl := Option.some.inj H
  go_enter Tryd.func14, Tryd.ntmps14
  go_wp2
  go_ret
  exact ⟨by first | rfl | (simp; done) | (simp [*]; done), by repeat (first | exact Drawn0.refl _ | apply Drawn0.step)⟩
 ·rw [if_neg c4] at H
  have c4b0 : decide (a1 ≤ a0) = false := decide_eq_false c4
  clear c4
  obtain rfl := Option.some.inj H
  go_enter Tryd.func14, Tryd.ntmps14
  go_wp2
  go_ret
  exact ⟨by first | rfl | (simp; done) | (simp [*]; done), by repeat (first | exact Drawn0.refl _ | apply Drawn0.step)⟩

/-! ### strings_IndexByte: function 24 -/
def strings_IndexByte.f (a0 : ByteArray) (a1 : Int) : Option Int := some (Lib.indexByte a0.data.toList a1.toNat.toUInt8)
theorem strings_IndexByte.calls (a0 : ByteArray) (a1 : Int) (r : Int) (w : World) (h : strings_IndexByte.f a0 a1 = some r) :
  Calls Tryd.prog 24 #[.string a0, .int .u8 a1] w fun e w' => e = .returned (.int .i64 r) ∧ Drawn0 w w' := by
 obtain rfl := Option.some.inj h
 exact (Tryd.strings_IndexByte a0 a1 w).mono fun e w' ⟨he, hw⟩ => ⟨he, hw ▸ Drawn0.refl _⟩

/-! ### impl_hasOnly: function 19 -/
def impl_hasOnly.l0 : Nat → ByteArray → ByteArray → Int → Int → Option (Bool)
 | 0, _, _, _, _ => none
 | k + 1, x0, x1, x7, x8 => if x8 < x7 then (if 0 ≤ x8 then (if x8 < (x0.size : Int) then ((strings_IndexByte.f x1 (bt x0 x8)).bind fun t122 => (if t122 < 0 then (some false) else (impl_hasOnly.l0 k x0 x1 x7 (wrap64 (x8 + 1))))) else (none)) else (none)) else (some true)
def impl_hasOnly.f (k : Nat) (a0 : ByteArray) (a1 : ByteArray) : Option (Bool) := impl_hasOnly.l0 k a0 a1 (a0.size : Int) 0
theorem impl_hasOnly.mono_l : ∀ k, (∀ y0 y1 y2 y3, LeO (impl_hasOnly.l0 k y0 y1 y2 y3) (impl_hasOnly.l0 (k + 1) y0 y1 y2 y3))
 | 0 => fun _ _ _ _ r h => by simp [impl_hasOnly.l0] at h
 | k + 1 => by
  have ih0 := impl_hasOnly.mono_l k
  ·intro y0 y1 y2 y3
   unfold impl_hasOnly.l0
   repeat' first
   | (with_reducible exact ih0 _ _ _ _)
   | (with_reducible exact LeO.refl _)
   | (with_reducible exact LeO.none _)
   | (with_reducible refine LeO.ite ?_ ?_)
   | (with_reducible refine LeO.bind ?_ (fun _ => ?_))
   | exact ih0 _ _ _ _
   | exact LeO.none _
   | refine LeO.ite ?_ ?_
   | refine LeO.bind ?_ (fun _ => ?_)
theorem impl_hasOnly.mono : ∀ a0 a1 k, LeO (impl_hasOnly.f k a0 a1) (impl_hasOnly.f (k + 1) a0 a1) := by
 intro a0 a1 k
 have ih0 := impl_hasOnly.mono_l k
 unfold impl_hasOnly.f
 repeat' first
   | (with_reducible exact ih0 _ _ _ _)
   | (with_reducible exact LeO.refl _)
   | (with_reducible exact LeO.none _)
   | (with_reducible refine LeO.ite ?_ ?_)
   | (with_reducible refine LeO.bind ?_ (fun _ => ?_))
   | exact ih0 _ _ _ _
   | exact LeO.none _
   | refine LeO.ite ?_ ?_
   | refine LeO.bind ?_ (fun _ => ?_)
set_option maxHeartbeats 8000000 in
set_option maxRecDepth 100000 in
theorem impl_hasOnly.calls (k : Nat) (a0 : ByteArray) (a1 : ByteArray) (r : Bool) (w : World) (h : impl_hasOnly.f k a0 a1 = some r) :
  Calls Tryd.prog 19 #[.string a0, .string a1] w fun e w' => e = .returned (.bool r) ∧ Drawn0 w w' := by
 have H : (impl_hasOnly.l0 k a0 a1 (a0.size : Int) 0) = some r := h
 clear h
 have H' := Aside0.mk H
 clear H
 go_enter Tryd.func19, Tryd.ntmps19
 go_wp2
 go_loopg [8] k (fun kq v8 w' => ∃ (x8_1 : Int), v8 = .int .i64 x8_1 ∧ Aside0 (impl_hasOnly.l0 kq a0 a1 (a0.size : Int) x8_1 = some r) ∧ Aside0 (kq ≤ k) ∧ Drawn0 w w')
 case atStart => exact ⟨(0), (by first | rfl | (simp; done) | (simp [*]; done)), H', ⟨Nat.le_refl _⟩, by repeat (first | exact Drawn0.refl _ | apply Drawn0.step)⟩
 case round =>
  clear H'
  try clear c1
  try clear p2
  obtain ⟨x8_1, rfl, HA, HK1, ⟨m1, rfl⟩⟩ := hrel
  cases gk with
  | zero => exact absurd HA.out (by simp [impl_hasOnly.l0])
  | succ k1 =>
   have H := HA.out
   clear HA
   simp only [impl_hasOnly.l0] at H
   by_cases c3 : x8_1 < (a0.size : Int)
   ·rw [if_pos c3] at H
    have c3b0 : decide (x8_1 < (a0.size : Int)) = true := decide_eq_true c3
    clear c3
    by_cases c4 : 0 ≤ x8_1
    ·rw [if_pos c4] at H
     have c4b0 : decide (0 ≤ x8_1) = true := decide_eq_true c4
     clear c4
     by_cases c5 : x8_1 < (a0.size : Int)
     ·rw [if_pos c5] at H
      have c5b0 : decide (x8_1 < (a0.size : Int)) = true := decide_eq_true c5
      clear c5
      replace H := Option.bind_eq_some_iff.mp H
      obtain ⟨t122, A70, H⟩ := H
      try dsimp only at H
      have A7 := Aside0.mk A70
      clear A70
      by_cases c8 : t122 < 0
      ·rw [if_pos c8] at H
       have c8b0 : decide (t122 < 0) = true := decide_eq_true c8
       clear c8
       obtain rfl := Option.some.inj H
       have p6 : 0 ≤ (x8_1 : Int) := of_decide_eq_true as_
       have q6 : x8_1 < (a0.size : Int) := of_decide_eq_true as_
       have hx6 := bt_at a0 x8_1
       replace p6 := eq_true p6
       replace q6 := eq_true q6
       go_wp2_with (first | ((with_reducible refine gate_callee (f := 24) rfl ?_); refine goesL_ (some 15) rfl rfl Tryd.func24 (by kernel_rfl) rfl #[.string a1, .int .u8 (bt a0 x8_1)] rfl args_ ?_; (with_reducible refine (strings_IndexByte.calls a1 (bt a0 x8_1) t122 _ A7.out).mono ?_); rintro e w' ⟨rfl, ⟨nd, rfl⟩⟩; refine ⟨_, rfl, ?_⟩))
       go_ret
       exact ⟨by first | rfl | (simp; done) | (simp [*]; done), by repeat (first | exact Drawn0.refl _ | apply Drawn0.step)⟩
      ·rw [if_neg c8] at H
       have c8b0 : decide (t122 < 0) = false := decide_eq_false c8
       clear c8
       have H' := Aside0.mk H
       clear H
       have p6 : 0 ≤ (x8_1 : Int) := of_decide_eq_true as_
       have q6 : x8_1 < (a0.size : Int) := of_decide_eq_true as_
       have hx6 := bt_at a0 x8_1
       replace p6 := eq_true p6
       replace q6 := eq_true q6
       go_wp2_with (first | ((with_reducible refine gate_callee (f := 24) rfl ?_); refine goesL_ (some 15) rfl rfl Tryd.func24 (by kernel_rfl) rfl #[.string a1, .int .u8 (bt a0 x8_1)] rfl args_ ?_; (with_reducible refine (strings_IndexByte.calls a1 (bt a0 x8_1) t122 _ A7.out).mono ?_); rintro e w' ⟨rfl, ⟨nd, rfl⟩⟩; refine ⟨_, rfl, ?_⟩))
       go_roundg k1
       case measure => have := HK1.out; omega
       case rel => exact ⟨(wrap64 (x8_1 + 1)), (by first | rfl | (simp; done) | (simp [*]; done)), H', ⟨by have := HK1.out; omega⟩, by repeat (first | exact Drawn0.refl _ | apply Drawn0.step)⟩
     ·rw [if_neg c5] at H
      exact absurd H (by simp)
    ·rw [if_neg c4] at H
     exact absurd H (by simp)
   ·rw [if_neg c3] at H
    have c3b0 : decide (x8_1 < (a0.size : Int)) = false := decide_eq_false c3
    clear c3
    obtain rfl := Option.some.inj H
    go_wp2
    go_ret
    exact ⟨by first | rfl | (simp; done) | (simp [*]; done), by repeat (first | exact Drawn0.refl _ | apply Drawn0.step)⟩

/-! ### impl_isWordOf: function 17 -/
def impl_isWordOf.f (k : Nat) (a0 : ByteArray) (a1 : ByteArray) : Option (Bool) := (impl_within.f (a0.size : Int) 1 8).bind fun t123 => (if t123 = true then ((impl_hasOnly.f k a0 a1).bind fun t124 => (some t124)) else (some false))
theorem impl_isWordOf.mono : ∀ a0 a1 k, LeO (impl_isWordOf.f k a0 a1) (impl_isWordOf.f (k + 1) a0 a1) := by
 intro a0 a1 k
 unfold impl_isWordOf.f
 repeat' first
   | (with_reducible exact impl_hasOnly.mono _ _ _)
   | (with_reducible exact LeO.refl _)
   | (with_reducible exact LeO.none _)
   | (with_reducible refine LeO.ite ?_ ?_)
   | (with_reducible refine LeO.bind ?_ (fun _ => ?_))
   | exact LeO.none _
   | refine LeO.ite ?_ ?_
   | refine LeO.bind ?_ (fun _ => ?_)
set_option maxHeartbeats 8000000 in
set_option maxRecDepth 100000 in
theorem impl_isWordOf.calls (k : Nat) (a0 : ByteArray) (a1 : ByteArray) (r : Bool) (w : World) (h : impl_isWordOf.f k a0 a1 = some r) :
  Calls Tryd.prog 17 #[.string a0, .string a1] w fun e w' => e = .returned (.bool r) ∧ Drawn0 w w' := by
 have H : ((impl_within.f (a0.size : Int) 1 8).bind fun t123 => (if t123 = true then ((impl_hasOnly.f k a0 a1).bind fun t124 => (some t124)) else (some false))) = some r := h
 clear h
 replace H := Option.bind_eq_some_iff.mp H
 obtain ⟨t123, A30, H⟩ := H
 try dsimp only at H
 have A3 := Aside0.mk A30
 clear A30
 by_cases c4 : t123 = true
 ·subst c4
  have H1 : ((impl_hasOnly.f k a0 a1).bind fun t124 => (some t124)) = some r := by rw [if_pos rfl] at H; exact H
  clear H
  have H := H1
  clear H1
  replace H := Option.bind_eq_some_iff.mp H
  obtain ⟨t124, A50, H⟩ := H
  try dsimp only at H
  have A5 := Aside0.mk A50
  clear A50
  obtain rfl := Option.some.inj H
  go_enter Tryd.func17, Tryd.ntmps17
  go_wp2_with (first | ((with_reducible refine gate_callee (f := 14) rfl ?_); refine goesL_ (some 7) rfl rfl Tryd.func14 (by kernel_rfl) rfl #[.int .i64 (a0.size : Int), .int .i64 1, .int .i64 8] rfl args_ ?_; (with_reducible refine (impl_within.calls (a0.size : Int) 1 8 true _ A3.out).mono ?_); rintro e w' ⟨rfl, ⟨nd, rfl⟩⟩; refine ⟨_, rfl, ?_⟩) | (go_at_call 19; (with_reducible refine (impl_hasOnly.calls k a0 a1 t124 _ A5.out).mono ?_); rintro e w' ⟨rfl, ⟨nd, rfl⟩⟩))
  go_ret
  exact ⟨by first | rfl | (simp; done) | (simp [*]; done), by repeat (first | exact Drawn0.refl _ | apply Drawn0.step)⟩
 ·replace c4 := Bool.eq_false_iff.mpr c4
  subst c4
  have H1 : (some false) = some r := by rw [if_neg (show ¬ (false = true) by decide)] at H; exact H
  clear H
  have H := H1
  clear H1
  obtain rfl := Option.some.inj H
  go_enter Tryd.func17, Tryd.ntmps17
  go_wp2_with (first | ((with_reducible refine gate_callee (f := 14) rfl ?_); refine goesL_ (some 7) rfl rfl Tryd.func14 (by kernel_rfl) rfl #[.int .i64 (a0.size : Int), .int .i64 1, .int .i64 8] rfl args_ ?_; (with_reducible refine (impl_within.calls (a0.size : Int) 1 8 false _ A3.out).mono ?_); rintro e w' ⟨rfl, ⟨nd, rfl⟩⟩; refine ⟨_, rfl, ?_⟩))
  go_ret
  exact ⟨by first | rfl | (simp; done) | (simp [*]; done), by repeat (first | exact Drawn0.refl _ | apply Drawn0.step)⟩

/-! ### impl_IsGloss: function 15 -/
def impl_IsGloss.f (k : Nat) (a0 : ByteArray) : Option (Bool) := (impl_isWordOf.f k a0 (⟨#[65, 66, 67, 68, 69, 70, 71, 72, 73, 74, 75, 76, 77, 78, 79, 80, 81, 82, 83, 84, 85, 86, 87, 88, 89, 90]⟩ : ByteArray)).bind fun t125 => (some t125)
theorem impl_IsGloss.mono : ∀ a0 k, LeO (impl_IsGloss.f k a0) (impl_IsGloss.f (k + 1) a0) := by
 intro a0 k
 unfold impl_IsGloss.f
 repeat' first
   | (with_reducible exact impl_isWordOf.mono _ _ _)
   | (with_reducible exact LeO.refl _)
   | (with_reducible exact LeO.none _)
   | (with_reducible refine LeO.ite ?_ ?_)
   | (with_reducible refine LeO.bind ?_ (fun _ => ?_))
   | exact LeO.none _
   | refine LeO.ite ?_ ?_
   | refine LeO.bind ?_ (fun _ => ?_)
set_option maxHeartbeats 8000000 in
set_option maxRecDepth 100000 in
theorem impl_IsGloss.calls (k : Nat) (a0 : ByteArray) (r : Bool) (w : World) (h : impl_IsGloss.f k a0 = some r) :
  Calls Tryd.prog 15 #[.string a0] w fun e w' => e = .returned (.bool r) ∧ Drawn0 w w' := by
 have H : ((impl_isWordOf.f k a0 (⟨#[65, 66, 67, 68, 69, 70, 71, 72, 73, 74, 75, 76, 77, 78, 79, 80, 81, 82, 83, 84, 85, 86, 87, 88, 89, 90]⟩ : ByteArray)).bind fun t125 => (some t125)) = some r := h
 clear h
 replace H := Option.bind_eq_some_iff.mp H
 obtain ⟨t125, A20, H⟩ := H
 try dsimp only at H
 have A2 := Aside0.mk A20
 clear A20
 obtain rfl := Option.some.inj H
 go_enter Tryd.func15, Tryd.ntmps15
 go_wp2_with (first | ((with_reducible refine gate_callee (f := 17) rfl ?_); refine goesL_ (some 4) rfl rfl Tryd.func17 (by kernel_rfl) rfl #[.string a0, .string (⟨#[65, 66, 67, 68, 69, 70, 71, 72, 73, 74, 75, 76, 77, 78, 79, 80, 81, 82, 83, 84, 85, 86, 87, 88, 89, 90]⟩ : ByteArray)] rfl args_ ?_; (with_reducible refine (impl_isWordOf.calls k a0 (⟨#[65, 66, 67, 68, 69, 70, 71, 72, 73, 74, 75, 76, 77, 78, 79, 80, 81, 82, 83, 84, 85, 86, 87, 88, 89, 90]⟩ : ByteArray) t125 _ A2.out).mono ?_); rintro e w' ⟨rfl, ⟨nd, rfl⟩⟩; refine ⟨_, rfl, ?_⟩))
 go_ret
 exact ⟨by first | rfl | (simp; done) | (simp [*]; done), by repeat (first | exact Drawn0.refl _ | apply Drawn0.step)⟩

/-! ### impl_isDeskEdit: function 10 -/
def impl_isDeskEdit.f (k : Nat) (a0_0 : Int) (a0_1 : Int) (a0_2 : ByteArray) (a0_3 : ByteArray) : Option (Bool) := (impl_within.f a0_1 0 20).bind fun t127 => (if t127 = true then (if a0_0 = 0 then ((impl_IsGloss.f k a0_2).bind fun t128 => (if t128 = true then (some (a0_3.toList == ([] : List UInt8))) else (some false))) else (if a0_0 = 1 then (if a0_2.toList = ([] : List UInt8) then ((impl_IsGloss.f k a0_3).bind fun t129 => (some t129)) else (some false)) else (if a0_0 = 2 then ((impl_IsGloss.f k a0_2).bind fun t130 => (if t130 = true then ((impl_IsGloss.f k a0_3).bind fun t131 => (if t131 = true then (some (a0_2.toList != a0_3.toList)) else (some false))) else (some false))) else (some false)))) else (some false))
theorem impl_isDeskEdit.mono : ∀ a0 a1 a2 a3 k, LeO (impl_isDeskEdit.f k a0 a1 a2 a3) (impl_isDeskEdit.f (k + 1) a0 a1 a2 a3) := by
 intro a0 a1 a2 a3 k
 unfold impl_isDeskEdit.f
 repeat' first
   | (with_reducible exact impl_IsGloss.mono _ _)
   | (with_reducible exact LeO.refl _)
   | (with_reducible exact LeO.none _)
   | (with_reducible refine LeO.ite ?_ ?_)
   | (with_reducible refine LeO.bind ?_ (fun _ => ?_))
   | exact LeO.none _
   | refine LeO.ite ?_ ?_
   | refine LeO.bind ?_ (fun _ => ?_)
set_option maxHeartbeats 8000000 in
set_option maxRecDepth 100000 in
theorem impl_isDeskEdit.calls (k : Nat) (a0_0 : Int) (a0_1 : Int) (a0_2 : ByteArray) (a0_3 : ByteArray) (r : Bool) (w : World) (h : impl_isDeskEdit.f k a0_0 a0_1 a0_2 a0_3 = some r) :
  Calls Tryd.prog 10 #[.agg #[.int .i64 a0_0, .int .i64 a0_1, .string a0_2, .string a0_3]] w fun e w' => e = .returned (.bool r) ∧ Below w.heap.size w w' := by
 have hu27 := Tryd.underlying27
 have HB := Aside0.mk (Below.refl w.heap.size w)
 have H : ((impl_within.f a0_1 0 20).bind fun t127 => (if t127 = true then (if a0_0 = 0 then ((impl_IsGloss.f k a0_2).bind fun t128 => (if t128 = true then (some (a0_3.toList == ([] : List UInt8))) else (some false))) else (if a0_0 = 1 then (if a0_2.toList = ([] : List UInt8) then ((impl_IsGloss.f k a0_3).bind fun t129 => (some t129)) else (some false)) else (if a0_0 = 2 then ((impl_IsGloss.f k a0_2).bind fun t130 => (if t130 = true then ((impl_IsGloss.f k a0_3).bind fun t131 => (if t131 = true then (some (a0_2.toList != a0_3.toList)) else (some false))) else (some false))) else (some false)))) else (some false))) = some r := h
 clear h
 replace H := Option.bind_eq_some_iff.mp H
 obtain ⟨t127, A20, H⟩ := H
 try dsimp only at H
 have A2 := Aside0.mk A20
 clear A20
 by_cases c3 : t127 = true
 ·subst c3
  have H1 : (if a0_0 = 0 then ((impl_IsGloss.f k a0_2).bind fun t128 => (if t128 = true then (some (a0_3.toList == ([] : List UInt8))) else (some false))) else (if a0_0 = 1 then (if a0_2.toList = ([] : List UInt8) then ((impl_IsGloss.f k a0_3).bind fun t129 => (some t129)) else (some false)) else (if a0_0 = 2 then ((impl_IsGloss.f k a0_2).bind fun t130 => (if t130 = true then ((impl_IsGloss.f k a0_3).bind fun t131 => (if t131 = true then (some (a0_2.toList != a0_3.toList)) else (some false))) else (some false))) else (some false)))) = some r := by rw [if_pos rfl] at H; exact H
  clear H
  have H := H1
  clear H1
  by_cases c4 : a0_0 = 0
  ·rw [if_pos c4] at H
   have c4b0 : (a0_0 == 0) = true := beq_iff_eq.mpr c4
   have c4b1 : (a0_0 != 0) = false := bne_eq_false_iff_eq.mpr c4
   clear c4
   replace H := Option.bind_eq_some_iff.mp H
   obtain ⟨t128, A50, H⟩ := H
   try dsimp only at H
   have A5 := Aside0.mk A50
   clear A50
   by_cases c6 : t128 = true
   ·subst c6
    have H1 : (some (a0_3.toList == ([] : List UInt8))) = some r := by rw [if_pos rfl] at H; exact H
    clear H
    have H := H1
    clear H1
    obtain rfl := Option.some.inj H
    go_enter Tryd.func10, Tryd.ntmps10
    go_wp2_with (first | ((with_reducible refine gate_dst (N := 1) rfl ?_); refine box_event ?hg (N := 1) ?hd (cs := #[.int .i64 a0_0, .int .i64 a0_1, .string a0_2, .string a0_3]) (t := 27) ?hr ?_; (case hd => rfl); (case hg => rfl); (case hr => first | (go_simp; done) | (go_simp; rfl)); intro gb126 hg w7 hbox hb; have n0_ := Aside0.mk (bt_ HB hb); have n1_ := Aside0.mk (hbox); have n2_ := gz_ hg HB; have n3_ := gz_ hg HB; clear HB; have HB := n0_; have BK126 := n1_; have GW126 := n2_; have GE126 := n3_; clear n0_ n1_ n2_ n3_; clear hb hbox hg; have hcz8_0 := cz0_ BK126; have hcz8_1 := cz1_ BK126; have hcz8_2 := cz2_ BK126; have hcz8_3 := cz3_ BK126; have hfz8_0 := fz_ BK126 0; have hfz8_1 := fz_ BK126 1; have hfz8_2 := fz_ BK126 2; have hfz8_3 := fz_ BK126 3) | ((with_reducible refine gate_callee (f := 14) rfl ?_); refine goesL_ (some 5) rfl rfl Tryd.func14 (by kernel_rfl) rfl #[.int .i64 a0_1, .int .i64 0, .int .i64 20] rfl args_ ?_; (with_reducible refine (impl_within.calls a0_1 0 20 true _ A2.out).mono ?_); rintro e w' ⟨rfl, ⟨nd, rfl⟩⟩; refine ⟨_, rfl, ?_⟩) | ((with_reducible refine gate_callee (f := 15) rfl ?_); refine goesL_ (some 13) rfl rfl Tryd.func15 (by kernel_rfl) rfl #[.string a0_2] rfl args_ ?_; (with_reducible refine (impl_IsGloss.calls k a0_2 true _ A5.out).mono ?_); rintro e w' ⟨rfl, ⟨nd, rfl⟩⟩; refine ⟨_, rfl, ?_⟩))
    go_ret
    exact ⟨by first | rfl | (simp [errW_none, errW_some] <;> rfl) | (simp [*, errW_none, errW_some] <;> rfl), bb1_ HB GE126⟩
   ·replace c6 := Bool.eq_false_iff.mpr c6
    subst c6
    have H1 : (some false) = some r := by rw [if_neg (show ¬ (false = true) by decide)] at H; exact H
    clear H
    have H := H1
    clear H1
    obtain rfl := Option.some.inj H
    go_enter Tryd.func10, Tryd.ntmps10
    go_wp2_with (first | ((with_reducible refine gate_dst (N := 1) rfl ?_); refine box_event ?hg (N := 1) ?hd (cs := #[.int .i64 a0_0, .int .i64 a0_1, .string a0_2, .string a0_3]) (t := 27) ?hr ?_; (case hd => rfl); (case hg => rfl); (case hr => first | (go_simp; done) | (go_simp; rfl)); intro gb126 hg w9 hbox hb; have n0_ := Aside0.mk (bt_ HB hb); have n1_ := Aside0.mk (hbox); have n2_ := gz_ hg HB; have n3_ := gz_ hg HB; clear HB; have HB := n0_; have BK126 := n1_; have GW126 := n2_; have GE126 := n3_; clear n0_ n1_ n2_ n3_; clear hb hbox hg; have hcz10_0 := cz0_ BK126; have hcz10_1 := cz1_ BK126; have hcz10_2 := cz2_ BK126; have hcz10_3 := cz3_ BK126; have hfz10_0 := fz_ BK126 0; have hfz10_1 := fz_ BK126 1; have hfz10_2 := fz_ BK126 2; have hfz10_3 := fz_ BK126 3) | ((with_reducible refine gate_callee (f := 14) rfl ?_); refine goesL_ (some 5) rfl rfl Tryd.func14 (by kernel_rfl) rfl #[.int .i64 a0_1, .int .i64 0, .int .i64 20] rfl args_ ?_; (with_reducible refine (impl_within.calls a0_1 0 20 true _ A2.out).mono ?_); rintro e w' ⟨rfl, ⟨nd, rfl⟩⟩; refine ⟨_, rfl, ?_⟩) | ((with_reducible refine gate_callee (f := 15) rfl ?_); refine goesL_ (some 13) rfl rfl Tryd.func15 (by kernel_rfl) rfl #[.string a0_2] rfl args_ ?_; (with_reducible refine (impl_IsGloss.calls k a0_2 false _ A5.out).mono ?_); rintro e w' ⟨rfl, ⟨nd, rfl⟩⟩; refine ⟨_, rfl, ?_⟩))
    go_ret
    exact ⟨by first | rfl | (simp [errW_none, errW_some] <;> rfl) | (simp [*, errW_none, errW_some] <;> rfl), bb1_ HB GE126⟩
  ·rw [if_neg c4] at H
   have c4b0 : (a0_0 == 0) = false := beq_eq_false_iff_ne.mpr c4
   have c4b1 : (a0_0 != 0) = true := bne_iff_ne.mpr c4
   by_cases c11 : a0_0 = 1
   ·rw [if_pos c11] at H
    have c11b0 : (a0_0 == 1) = true := beq_iff_eq.mpr c11
    have c11b1 : (a0_0 != 1) = false := bne_eq_false_iff_eq.mpr c11
    clear c11
    by_cases c12 : a0_2.toList = ([] : List UInt8)
    ·rw [if_pos c12] at H
     have c12b0 : (a0_2.toList == ([] : List UInt8)) = true := beq_iff_eq.mpr c12
     have c12b1 : (a0_2.toList != ([] : List UInt8)) = false := bne_eq_false_iff_eq.mpr c12
     clear c12
     replace H := Option.bind_eq_some_iff.mp H
     obtain ⟨t129, A130, H⟩ := H
     try dsimp only at H
     have A13 := Aside0.mk A130
     clear A130
     obtain rfl := Option.some.inj H
     go_enter Tryd.func10, Tryd.ntmps10
     go_wp2_with (first | ((with_reducible refine gate_dst (N := 1) rfl ?_); refine box_event ?hg (N := 1) ?hd (cs := #[.int .i64 a0_0, .int .i64 a0_1, .string a0_2, .string a0_3]) (t := 27) ?hr ?_; (case hd => rfl); (case hg => rfl); (case hr => first | (go_simp; done) | (go_simp; rfl)); intro gb126 hg w14 hbox hb; have n0_ := Aside0.mk (bt_ HB hb); have n1_ := Aside0.mk (hbox); have n2_ := gz_ hg HB; have n3_ := gz_ hg HB; clear HB; have HB := n0_; have BK126 := n1_; have GW126 := n2_; have GE126 := n3_; clear n0_ n1_ n2_ n3_; clear hb hbox hg; have hcz15_0 := cz0_ BK126; have hcz15_1 := cz1_ BK126; have hcz15_2 := cz2_ BK126; have hcz15_3 := cz3_ BK126; have hfz15_0 := fz_ BK126 0; have hfz15_1 := fz_ BK126 1; have hfz15_2 := fz_ BK126 2; have hfz15_3 := fz_ BK126 3) | ((with_reducible refine gate_callee (f := 14) rfl ?_); refine goesL_ (some 5) rfl rfl Tryd.func14 (by kernel_rfl) rfl #[.int .i64 a0_1, .int .i64 0, .int .i64 20] rfl args_ ?_; (with_reducible refine (impl_within.calls a0_1 0 20 true _ A2.out).mono ?_); rintro e w' ⟨rfl, ⟨nd, rfl⟩⟩; refine ⟨_, rfl, ?_⟩) | (go_at_call 15; (with_reducible refine (impl_IsGloss.calls k a0_3 t129 _ A13.out).mono ?_); rintro e w' ⟨rfl, ⟨nd, rfl⟩⟩))
     go_ret
     exact ⟨by first | rfl | (simp [errW_none, errW_some] <;> rfl) | (simp [*, errW_none, errW_some] <;> rfl), bb1_ HB GE126⟩
    ·rw [if_neg c12] at H
     have c12b0 : (a0_2.toList == ([] : List UInt8)) = false := beq_eq_false_iff_ne.mpr c12
     have c12b1 : (a0_2.toList != ([] : List UInt8)) = true := bne_iff_ne.mpr c12
     obtain rfl := Option.some.inj H
     go_enter Tryd.func10, Tryd.ntmps10
     go_wp2_with (first | ((with_reducible refine gate_dst (N := 1) rfl ?_); refine box_event ?hg (N := 1) ?hd (cs := #[.int .i64 a0_0, .int .i64 a0_1, .string a0_2, .string a0_3]) (t := 27) ?hr ?_; (case hd => rfl); (case hg => rfl); (case hr => first | (go_simp; done) | (go_simp; rfl)); intro gb126 hg w16 hbox hb; have n0_ := Aside0.mk (bt_ HB hb); have n1_ := Aside0.mk (hbox); have n2_ := gz_ hg HB; have n3_ := gz_ hg HB; clear HB; have HB := n0_; have BK126 := n1_; have GW126 := n2_; have GE126 := n3_; clear n0_ n1_ n2_ n3_; clear hb hbox hg; have hcz17_0 := cz0_ BK126; have hcz17_1 := cz1_ BK126; have hcz17_2 := cz2_ BK126; have hcz17_3 := cz3_ BK126; have hfz17_0 := fz_ BK126 0; have hfz17_1 := fz_ BK126 1; have hfz17_2 := fz_ BK126 2; have hfz17_3 := fz_ BK126 3) | ((with_reducible refine gate_callee (f := 14) rfl ?_); refine goesL_ (some 5) rfl rfl Tryd.func14 (by kernel_rfl) rfl #[.int .i64 a0_1, .int .i64 0, .int .i64 20] rfl args_ ?_; (with_reducible refine (impl_within.calls a0_1 0 20 true _ A2.out).mono ?_); rintro e w' ⟨rfl, ⟨nd, rfl⟩⟩; refine ⟨_, rfl, ?_⟩))
     go_ret
     exact ⟨by first | rfl | (simp [errW_none, errW_some] <;> rfl) | (simp [*, errW_none, errW_some] <;> rfl), bb1_ HB GE126⟩
   ·rw [if_neg c11] at H
    have c11b0 : (a0_0 == 1) = false := beq_eq_false_iff_ne.mpr c11
    have c11b1 : (a0_0 != 1) = true := bne_iff_ne.mpr c11
    by_cases c18 : a0_0 = 2
    ·rw [if_pos c18] at H
     have c18b0 : (a0_0 == 2) = true := beq_iff_eq.mpr c18
     have c18b1 : (a0_0 != 2) = false := bne_eq_false_iff_eq.mpr c18
     clear c18
     replace H := Option.bind_eq_some_iff.mp H
     obtain ⟨t130, A190, H⟩ := H
     try dsimp only at H
     have A19 := Aside0.mk A190
     clear A190
     by_cases c20 : t130 = true
     ·subst c20
      have H1 : ((impl_IsGloss.f k a0_3).bind fun t131 => (if t131 = true then (some (a0_2.toList != a0_3.toList)) else (some false))) = some r := by rw [if_pos rfl] at H; exact H
      clear H
      have H := H1
      clear H1
      replace H := Option.bind_eq_some_iff.mp H
      obtain ⟨t131, A210, H⟩ := H
      try dsimp only at H
      have A21 := Aside0.mk A210
      clear A210
      by_cases c22 : t131 = true
      ·subst c22
       have H1 : (some (a0_2.toList != a0_3.toList)) = some r := by rw [if_pos rfl] at H; exact H
       clear H
       have H := H1
       clear H1
       obtain rfl := Option.some.inj H
       go_enter Tryd.func10, Tryd.ntmps10
       go_wp2_with (first | ((with_reducible refine gate_dst (N := 1) rfl ?_); refine box_event ?hg (N := 1) ?hd (cs := #[.int .i64 a0_0, .int .i64 a0_1, .string a0_2, .string a0_3]) (t := 27) ?hr ?_; (case hd => rfl); (case hg => rfl); (case hr => first | (go_simp; done) | (go_simp; rfl)); intro gb126 hg w23 hbox hb; have n0_ := Aside0.mk (bt_ HB hb); have n1_ := Aside0.mk (hbox); have n2_ := gz_ hg HB; have n3_ := gz_ hg HB; clear HB; have HB := n0_; have BK126 := n1_; have GW126 := n2_; have GE126 := n3_; clear n0_ n1_ n2_ n3_; clear hb hbox hg; have hcz24_0 := cz0_ BK126; have hcz24_1 := cz1_ BK126; have hcz24_2 := cz2_ BK126; have hcz24_3 := cz3_ BK126; have hfz24_0 := fz_ BK126 0; have hfz24_1 := fz_ BK126 1; have hfz24_2 := fz_ BK126 2; have hfz24_3 := fz_ BK126 3) | ((with_reducible refine gate_callee (f := 14) rfl ?_); refine goesL_ (some 5) rfl rfl Tryd.func14 (by kernel_rfl) rfl #[.int .i64 a0_1, .int .i64 0, .int .i64 20] rfl args_ ?_; (with_reducible refine (impl_within.calls a0_1 0 20 true _ A2.out).mono ?_); rintro e w' ⟨rfl, ⟨nd, rfl⟩⟩; refine ⟨_, rfl, ?_⟩) | ((with_reducible refine gate_callee (f := 15) rfl ?_); refine goesL_ (some 33) rfl rfl Tryd.func15 (by kernel_rfl) rfl #[.string a0_2] rfl args_ ?_; (with_reducible refine (impl_IsGloss.calls k a0_2 true _ A19.out).mono ?_); rintro e w' ⟨rfl, ⟨nd, rfl⟩⟩; refine ⟨_, rfl, ?_⟩) | (go_at_call 15; (with_reducible refine (impl_IsGloss.calls k a0_3 true _ A21.out).mono ?_); rintro e w' ⟨rfl, ⟨nd, rfl⟩⟩))
       go_ret
       exact ⟨by first | rfl | (simp [errW_none, errW_some] <;> rfl) | (simp [*, errW_none, errW_some] <;> rfl), bb1_ HB GE126⟩
      ·replace c22 := Bool.eq_false_iff.mpr c22
       subst c22
       have H1 : (some false) = some r := by rw [if_neg (show ¬ (false = true) by decide)] at H; exact H
       clear H
       have H := H1
       clear H1
       obtain rfl := Option.some.inj H
       go_enter Tryd.func10, Tryd.ntmps10
       go_wp2_with (first | ((with_reducible refine gate_dst (N := 1) rfl ?_); refine box_event ?hg (N := 1) ?hd (cs := #[.int .i64 a0_0, .int .i64 a0_1, .string a0_2, .string a0_3]) (t := 27) ?hr ?_; (case hd => rfl); (case hg => rfl); (case hr => first | (go_simp; done) | (go_simp; rfl)); intro gb126 hg w25 hbox hb; have n0_ := Aside0.mk (bt_ HB hb); have n1_ := Aside0.mk (hbox); have n2_ := gz_ hg HB; have n3_ := gz_ hg HB; clear HB; have HB := n0_; have BK126 := n1_; have GW126 := n2_; have GE126 := n3_; clear n0_ n1_ n2_ n3_; clear hb hbox hg; have hcz26_0 := cz0_ BK126; have hcz26_1 := cz1_ BK126; have hcz26_2 := cz2_ BK126; have hcz26_3 := cz3_ BK126; have hfz26_0 := fz_ BK126 0; have hfz26_1 := fz_ BK126 1; have hfz26_2 := fz_ BK126 2; have hfz26_3 := fz_ BK126 3) | ((with_reducible refine gate_callee (f := 14) rfl ?_); refine goesL_ (some 5) rfl rfl Tryd.func14 (by kernel_rfl) rfl #[.int .i64 a0_1, .int .i64 0, .int .i64 20] rfl args_ ?_; (with_reducible refine (impl_within.calls a0_1 0 20 true _ A2.out).mono ?_); rintro e w' ⟨rfl, ⟨nd, rfl⟩⟩; refine ⟨_, rfl, ?_⟩) | ((with_reducible refine gate_callee (f := 15) rfl ?_); refine goesL_ (some 33) rfl rfl Tryd.func15 (by kernel_rfl) rfl #[.string a0_2] rfl args_ ?_; (with_reducible refine (impl_IsGloss.calls k a0_2 true _ A19.out).mono ?_); rintro e w' ⟨rfl, ⟨nd, rfl⟩⟩; refine ⟨_, rfl, ?_⟩) | (go_at_call 15; (with_reducible refine (impl_IsGloss.calls k a0_3 false _ A21.out).mono ?_); rintro e w' ⟨rfl, ⟨nd, rfl⟩⟩))
       go_ret
       exact ⟨by first | rfl | (simp [errW_none, errW_some] <;> rfl) | (simp [*, errW_none, errW_some] <;> rfl), bb1_ HB GE126⟩
     ·replace c20 := Bool.eq_false_iff.mpr c20
      subst c20
      have H1 : (some false) = some r := by rw [if_neg (show ¬ (false = true) by decide)] at H; exact H
      clear H
      have H := H1
      clear H1
      obtain rfl := Option.some.inj H
      go_enter Tryd.func10, Tryd.ntmps10
      go_wp2_with (first | ((with_reducible refine gate_dst (N := 1) rfl ?_); refine box_event ?hg (N := 1) ?hd (cs := #[.int .i64 a0_0, .int .i64 a0_1, .string a0_2, .string a0_3]) (t := 27) ?hr ?_; (case hd => rfl); (case hg => rfl); (case hr => first | (go_simp; done) | (go_simp; rfl)); intro gb126 hg w27 hbox hb; have n0_ := Aside0.mk (bt_ HB hb); have n1_ := Aside0.mk (hbox); have n2_ := gz_ hg HB; have n3_ := gz_ hg HB; clear HB; have HB := n0_; have BK126 := n1_; have GW126 := n2_; have GE126 := n3_; clear n0_ n1_ n2_ n3_; clear hb hbox hg; have hcz28_0 := cz0_ BK126; have hcz28_1 := cz1_ BK126; have hcz28_2 := cz2_ BK126; have hcz28_3 := cz3_ BK126; have hfz28_0 := fz_ BK126 0; have hfz28_1 := fz_ BK126 1; have hfz28_2 := fz_ BK126 2; have hfz28_3 := fz_ BK126 3) | ((with_reducible refine gate_callee (f := 14) rfl ?_); refine goesL_ (some 5) rfl rfl Tryd.func14 (by kernel_rfl) rfl #[.int .i64 a0_1, .int .i64 0, .int .i64 20] rfl args_ ?_; (with_reducible refine (impl_within.calls a0_1 0 20 true _ A2.out).mono ?_); rintro e w' ⟨rfl, ⟨nd, rfl⟩⟩; refine ⟨_, rfl, ?_⟩) | ((with_reducible refine gate_callee (f := 15) rfl ?_); refine goesL_ (some 33) rfl rfl Tryd.func15 (by kernel_rfl) rfl #[.string a0_2] rfl args_ ?_; (with_reducible refine (impl_IsGloss.calls k a0_2 false _ A19.out).mono ?_); rintro e w' ⟨rfl, ⟨nd, rfl⟩⟩; refine ⟨_, rfl, ?_⟩))
      go_ret
      exact ⟨by first | rfl | (simp [errW_none, errW_some] <;> rfl) | (simp [*, errW_none, errW_some] <;> rfl), bb1_ HB GE126⟩
    ·rw [if_neg c18] at H
     have c18b0 : (a0_0 == 2) = false := beq_eq_false_iff_ne.mpr c18
     have c18b1 : (a0_0 != 2) = true := bne_iff_ne.mpr c18
     obtain rfl := Option.some.inj H
     go_enter Tryd.func10, Tryd.ntmps10
     go_wp2_with (first | ((with_reducible refine gate_dst (N := 1) rfl ?_); refine box_event ?hg (N := 1) ?hd (cs := #[.int .i64 a0_0, .int .i64 a0_1, .string a0_2, .string a0_3]) (t := 27) ?hr ?_; (case hd => rfl); (case hg => rfl); (case hr => first | (go_simp; done) | (go_simp; rfl)); intro gb126 hg w29 hbox hb; have n0_ := Aside0.mk (bt_ HB hb); have n1_ := Aside0.mk (hbox); have n2_ := gz_ hg HB; have n3_ := gz_ hg HB; clear HB; have HB := n0_; have BK126 := n1_; have GW126 := n2_; have GE126 := n3_; clear n0_ n1_ n2_ n3_; clear hb hbox hg; have hcz30_0 := cz0_ BK126; have hcz30_1 := cz1_ BK126; have hcz30_2 := cz2_ BK126; have hcz30_3 := cz3_ BK126; have hfz30_0 := fz_ BK126 0; have hfz30_1 := fz_ BK126 1; have hfz30_2 := fz_ BK126 2; have hfz30_3 := fz_ BK126 3) | ((with_reducible refine gate_callee (f := 14) rfl ?_); refine goesL_ (some 5) rfl rfl Tryd.func14 (by kernel_rfl) rfl #[.int .i64 a0_1, .int .i64 0, .int .i64 20] rfl args_ ?_; (with_reducible refine (impl_within.calls a0_1 0 20 true _ A2.out).mono ?_); rintro e w' ⟨rfl, ⟨nd, rfl⟩⟩; refine ⟨_, rfl, ?_⟩))
     go_ret
     exact ⟨by first | rfl | (simp [errW_none, errW_some] <;> rfl) | (simp [*, errW_none, errW_some] <;> rfl), bb1_ HB GE126⟩
 ·replace c3 := Bool.eq_false_iff.mpr c3
  subst c3
  have H1 : (some false) = some r := by rw [if_neg (show ¬ (false = true) by decide)] at H; exact H
  clear H
  have H := H1
  clear H1
  obtain rfl := Option.some.inj H
  go_enter Tryd.func10, Tryd.ntmps10
  go_wp2_with (first | ((with_reducible refine gate_dst (N := 1) rfl ?_); refine box_event ?hg (N := 1) ?hd (cs := #[.int .i64 a0_0, .int .i64 a0_1, .string a0_2, .string a0_3]) (t := 27) ?hr ?_; (case hd => rfl); (case hg => rfl); (case hr => first | (go_simp; done) | (go_simp; rfl)); intro gb126 hg w31 hbox hb; have n0_ := Aside0.mk (bt_ HB hb); have n1_ := Aside0.mk (hbox); have n2_ := gz_ hg HB; have n3_ := gz_ hg HB; clear HB; have HB := n0_; have BK126 := n1_; have GW126 := n2_; have GE126 := n3_; clear n0_ n1_ n2_ n3_; clear hb hbox hg; have hcz32_0 := cz0_ BK126; have hcz32_1 := cz1_ BK126; have hcz32_2 := cz2_ BK126; have hcz32_3 := cz3_ BK126; have hfz32_0 := fz_ BK126 0; have hfz32_1 := fz_ BK126 1; have hfz32_2 := fz_ BK126 2; have hfz32_3 := fz_ BK126 3) | ((with_reducible refine gate_callee (f := 14) rfl ?_); refine goesL_ (some 5) rfl rfl Tryd.func14 (by kernel_rfl) rfl #[.int .i64 a0_1, .int .i64 0, .int .i64 20] rfl args_ ?_; (with_reducible refine (impl_within.calls a0_1 0 20 false _ A2.out).mono ?_); rintro e w' ⟨rfl, ⟨nd, rfl⟩⟩; refine ⟨_, rfl, ?_⟩))
  go_ret
  exact ⟨by first | rfl | (simp [errW_none, errW_some] <;> rfl) | (simp [*, errW_none, errW_some] <;> rfl), bb1_ HB GE126⟩

/-! ### strconv_Itoa: function 11 -/
/-- The digits, and the pairs of digits, as the library lays them. -/
def itA : ByteArray := ⟨#[48, 49, 50, 51, 52, 53, 54, 55, 56, 57, 97, 98, 99, 100, 101, 102, 103, 104, 105, 106, 107, 108, 109, 110, 111, 112, 113, 114, 115, 116, 117, 118, 119, 120, 121, 122]⟩
def itB : ByteArray := ⟨#[48, 48, 48, 49, 48, 50, 48, 51, 48, 52, 48, 53, 48, 54, 48, 55, 48, 56, 48, 57, 49, 48, 49, 49, 49, 50, 49, 51, 49, 52, 49, 53, 49, 54, 49, 55, 49, 56, 49, 57, 50, 48, 50, 49, 50, 50, 50, 51, 50, 52, 50, 53, 50, 54, 50, 55, 50, 56, 50, 57, 51, 48, 51, 49, 51, 50, 51, 51, 51, 52, 51, 53, 51, 54, 51, 55, 51, 56, 51, 57, 52, 48, 52, 49, 52, 50, 52, 51, 52, 52, 52, 53, 52, 54, 52, 55, 52, 56, 52, 57, 53, 48, 53, 49, 53, 50, 53, 51, 53, 52, 53, 53, 53, 54, 53, 55, 53, 56, 53, 57, 54, 48, 54, 49, 54, 50, 54, 51, 54, 52, 54, 53, 54, 54, 54, 55, 54, 56, 54, 57, 55, 48, 55, 49, 55, 50, 55, 51, 55, 52, 55, 53, 55, 54, 55, 55, 55, 56, 55, 57, 56, 48, 56, 49, 56, 50, 56, 51, 56, 52, 56, 53, 56, 54, 56, 55, 56, 56, 56, 57, 57, 48, 57, 49, 57, 50, 57, 51, 57, 52, 57, 53, 57, 54, 57, 55, 57, 56, 57, 57]⟩
/-- The text of a number below 100. -/
def itT (n : Int) : ByteArray := if n < 10 then itA.extract n.toNat (n + 1).toNat else itB.extract (n * 2).toNat (n * 2 + 2).toNat
set_option maxHeartbeats 4000000 in
set_option maxRecDepth 100000 in
theorem itSmall (n : Int) (w : World) (h0 : 0 ≤ n) (h1 : n < 100) : Calls Tryd.prog 20 #[.int .i64 n] w fun e w' => e = .returned (.string (itT n)) ∧ Drawn0 w w' := by
 have e1 : IntKind.i64.wrap (n + 1) = n + 1 := by simp [IntKind.wrap, IntKind.bits, IntKind.signed]; omega
 have e2 : IntKind.i64.wrap (n * 2) = n * 2 := by simp [IntKind.wrap, IntKind.bits, IntKind.signed]; omega
 have e3 : IntKind.i64.wrap (n * 2 + 2) = n * 2 + 2 := by simp [IntKind.wrap, IntKind.bits, IntKind.signed]; omega
 by_cases h : n < 10
 ·have c0 : decide (n < 10) = true := decide_eq_true h
  have c1 : itT n = itA.extract n.toNat (n + 1).toNat := if_pos h
  have b0 : (0 ≤ n) = True := eq_true h0
  have b1 : (n ≤ n + 1) = True := eq_true (by omega)
  have b2 : (n + 1 ≤ 36) = True := eq_true (by omega)
  have b3 : decide (0 ≤ n) = true := decide_eq_true h0
  have b4 : decide (n ≤ n + 1) = true := decide_eq_true (by omega)
  have b5 : decide (n + 1 ≤ 36) = true := decide_eq_true (by omega)
  rw [c1]
  clear h c1 h0 h1
  go_enter Tryd.func20, Tryd.ntmps20
  go_wp2
  go_ret
  exact ⟨by first | rfl | (simp [itA]; done), by repeat (first | exact Drawn0.refl _ | apply Drawn0.step)⟩
 ·have c0 : decide (n < 10) = false := decide_eq_false h
  have c1 : itT n = itB.extract (n * 2).toNat (n * 2 + 2).toNat := if_neg h
  have b0 : (0 ≤ n * 2) = True := eq_true (by omega)
  have b1 : (n * 2 ≤ n * 2 + 2) = True := eq_true (by omega)
  have b2 : (n * 2 + 2 ≤ 200) = True := eq_true (by omega)
  have b3 : decide (0 ≤ n * 2) = true := decide_eq_true (by omega)
  have b4 : decide (n * 2 ≤ n * 2 + 2) = true := decide_eq_true (by omega)
  have b5 : decide (n * 2 + 2 ≤ 200) = true := decide_eq_true (by omega)
  rw [c1]
  clear h c1 h0 h1
  go_enter Tryd.func20, Tryd.ntmps20
  go_wp2
  go_ret
  exact ⟨by first | rfl | (simp [itB]; done), by repeat (first | exact Drawn0.refl _ | apply Drawn0.step)⟩
set_option maxHeartbeats 4000000 in
set_option maxRecDepth 100000 in
theorem itFormat (n : Int) (w : World) (h0 : 0 ≤ n) (h1 : n < 100) : Calls Tryd.prog 18 #[.int .i64 n, .int .i64 10] w fun e w' => e = .returned (.string (itT n)) ∧ Drawn0 w w' := by
 have HS := Aside0.mk (fun W => itSmall n W h0 h1)
 have e1 : IntKind.i64.wrap n = n := by simp [IntKind.wrap, IntKind.bits, IntKind.signed]; omega
 have c0 : decide (0 ≤ n) = true := decide_eq_true h0
 have c1 : decide (n < 100) = true := decide_eq_true h1
 clear h0 h1
 go_enter Tryd.func18, Tryd.ntmps18
 go_wp2_with (go_at_call 20; refine (HS.out _).mono ?_; rintro e wq ⟨rfl, ⟨nd, rfl⟩⟩)
 go_ret
 exact ⟨by first | rfl | (simp; done), by repeat (first | exact Drawn0.refl _ | apply Drawn0.step)⟩
set_option maxHeartbeats 4000000 in
set_option maxRecDepth 100000 in
theorem itIn (n : Int) (w : World) (h0 : 0 ≤ n) (h1 : n < 100) : Calls Tryd.prog 16 #[.int .i64 n] w fun e w' => e = .returned (.string (itT n)) ∧ Drawn0 w w' := by
 have HS := Aside0.mk (fun W => itFormat n W h0 h1)
 have e1 : IntKind.i64.wrap n = n := by simp [IntKind.wrap, IntKind.bits, IntKind.signed]; omega
 clear h0 h1
 go_enter Tryd.func16, Tryd.ntmps16
 go_wp2_with (go_at_call 18; refine (HS.out _).mono ?_; rintro e wq ⟨rfl, ⟨nd, rfl⟩⟩)
 go_ret
 exact ⟨by first | rfl | (simp; done), by repeat (first | exact Drawn0.refl _ | apply Drawn0.step)⟩
def strconv_Itoa.f (a0 : Int) : Option ByteArray := if 0 ≤ a0 ∧ a0 < 100 then some (itT a0) else none
set_option maxHeartbeats 4000000 in
set_option maxRecDepth 100000 in
theorem strconv_Itoa.calls (a0 : Int) (r : ByteArray) (w : World) (h : strconv_Itoa.f a0 = some r) : Calls Tryd.prog 11 #[.int .i64 a0] w fun e w' => e = .returned (.string r) ∧ Drawn0 w w' := by
 unfold strconv_Itoa.f at h
 by_cases hn : 0 ≤ a0 ∧ a0 < 100
 ·rw [if_pos hn] at h
  obtain rfl := Option.some.inj h
  have HS := Aside0.mk (fun W => itIn a0 W hn.1 hn.2)
  clear h hn
  go_enter Tryd.func11, Tryd.ntmps11
  go_wp2_with (go_at_call 16; refine (HS.out _).mono ?_; rintro e wq ⟨rfl, ⟨nd, rfl⟩⟩)
  go_ret
  exact ⟨by first | rfl | (simp; done), by repeat (first | exact Drawn0.refl _ | apply Drawn0.step)⟩
 ·rw [if_neg hn] at h; exact absurd h (by simp)

/-! ### impl_EditText: function 7 -/
def impl_EditText.f (k : Nat) (a0_0 : Int) (a0_1 : Int) (a0_2 : ByteArray) (a0_3 : ByteArray) : Option (ByteArray × Bool) := (impl_isDeskEdit.f k a0_0 a0_1 a0_2 a0_3).bind fun t133 => (if t133 = true then ((strconv_Itoa.f a0_1).bind fun t134 => (if t134.size + 1 ≤ 9223372036854775807 then (if a0_0 = 0 then (if 1 + (t134 ++ (⟨#[32]⟩ : ByteArray)).size ≤ 9223372036854775807 then (if ((⟨#[43]⟩ : ByteArray) ++ (t134 ++ (⟨#[32]⟩ : ByteArray))).size + a0_2.size ≤ 9223372036854775807 then (some (((⟨#[43]⟩ : ByteArray) ++ (t134 ++ (⟨#[32]⟩ : ByteArray))) ++ a0_2, true)) else (none)) else (none)) else (if a0_0 = 1 then (if 1 + (t134 ++ (⟨#[32]⟩ : ByteArray)).size ≤ 9223372036854775807 then (if ((⟨#[45]⟩ : ByteArray) ++ (t134 ++ (⟨#[32]⟩ : ByteArray))).size + a0_3.size ≤ 9223372036854775807 then (some (((⟨#[45]⟩ : ByteArray) ++ (t134 ++ (⟨#[32]⟩ : ByteArray))) ++ a0_3, true)) else (none)) else (none)) else (if 1 + (t134 ++ (⟨#[32]⟩ : ByteArray)).size ≤ 9223372036854775807 then (if ((⟨#[61]⟩ : ByteArray) ++ (t134 ++ (⟨#[32]⟩ : ByteArray))).size + a0_3.size ≤ 9223372036854775807 then (if (((⟨#[61]⟩ : ByteArray) ++ (t134 ++ (⟨#[32]⟩ : ByteArray))) ++ a0_3).size + 1 ≤ 9223372036854775807 then (if ((((⟨#[61]⟩ : ByteArray) ++ (t134 ++ (⟨#[32]⟩ : ByteArray))) ++ a0_3) ++ (⟨#[62]⟩ : ByteArray)).size + a0_2.size ≤ 9223372036854775807 then (some (((((⟨#[61]⟩ : ByteArray) ++ (t134 ++ (⟨#[32]⟩ : ByteArray))) ++ a0_3) ++ (⟨#[62]⟩ : ByteArray)) ++ a0_2, true)) else (none)) else (none)) else (none)) else (none)))) else (none))) else (some ((⟨#[]⟩ : ByteArray), false)))
theorem impl_EditText.mono : ∀ a0 a1 a2 a3 k, LeO (impl_EditText.f k a0 a1 a2 a3) (impl_EditText.f (k + 1) a0 a1 a2 a3) := by
 intro a0 a1 a2 a3 k
 unfold impl_EditText.f
 repeat' first
   | (with_reducible exact impl_isDeskEdit.mono _ _ _ _ _)
   | (with_reducible exact LeO.refl _)
   | (with_reducible exact LeO.none _)
   | (with_reducible refine LeO.ite ?_ ?_)
   | (with_reducible refine LeO.bind ?_ (fun _ => ?_))
   | exact LeO.none _
   | refine LeO.ite ?_ ?_
   | refine LeO.bind ?_ (fun _ => ?_)
set_option maxHeartbeats 8000000 in
set_option maxRecDepth 100000 in
theorem impl_EditText.calls (k : Nat) (a0_0 : Int) (a0_1 : Int) (a0_2 : ByteArray) (a0_3 : ByteArray) (r1 : ByteArray) (r2 : Bool) (w : World) (h : impl_EditText.f k a0_0 a0_1 a0_2 a0_3 = some (r1, r2)) :
  Calls Tryd.prog 7 #[.agg #[.int .i64 a0_0, .int .i64 a0_1, .string a0_2, .string a0_3]] w fun e w' => e = .returned (.tuple #[.string r1, .bool r2]) ∧ Below w.heap.size w w' := by
 have hu27 := Tryd.underlying27
 have HB := Aside0.mk (Below.refl w.heap.size w)
 have H : ((impl_isDeskEdit.f k a0_0 a0_1 a0_2 a0_3).bind fun t133 => (if t133 = true then ((strconv_Itoa.f a0_1).bind fun t134 => (if t134.size + 1 ≤ 9223372036854775807 then (if a0_0 = 0 then (if 1 + (t134 ++ (⟨#[32]⟩ : ByteArray)).size ≤ 9223372036854775807 then (if ((⟨#[43]⟩ : ByteArray) ++ (t134 ++ (⟨#[32]⟩ : ByteArray))).size + a0_2.size ≤ 9223372036854775807 then (some (((⟨#[43]⟩ : ByteArray) ++ (t134 ++ (⟨#[32]⟩ : ByteArray))) ++ a0_2, true)) else (none)) else (none)) else (if a0_0 = 1 then (if 1 + (t134 ++ (⟨#[32]⟩ : ByteArray)).size ≤ 9223372036854775807 then (if ((⟨#[45]⟩ : ByteArray) ++ (t134 ++ (⟨#[32]⟩ : ByteArray))).size + a0_3.size ≤ 9223372036854775807 then (some (((⟨#[45]⟩ : ByteArray) ++ (t134 ++ (⟨#[32]⟩ : ByteArray))) ++ a0_3, true)) else (none)) else (none)) else (if 1 + (t134 ++ (⟨#[32]⟩ : ByteArray)).size ≤ 9223372036854775807 then (if ((⟨#[61]⟩ : ByteArray) ++ (t134 ++ (⟨#[32]⟩ : ByteArray))).size + a0_3.size ≤ 9223372036854775807 then (if (((⟨#[61]⟩ : ByteArray) ++ (t134 ++ (⟨#[32]⟩ : ByteArray))) ++ a0_3).size + 1 ≤ 9223372036854775807 then (if ((((⟨#[61]⟩ : ByteArray) ++ (t134 ++ (⟨#[32]⟩ : ByteArray))) ++ a0_3) ++ (⟨#[62]⟩ : ByteArray)).size + a0_2.size ≤ 9223372036854775807 then (some (((((⟨#[61]⟩ : ByteArray) ++ (t134 ++ (⟨#[32]⟩ : ByteArray))) ++ a0_3) ++ (⟨#[62]⟩ : ByteArray)) ++ a0_2, true)) else (none)) else (none)) else (none)) else (none)))) else (none))) else (some ((⟨#[]⟩ : ByteArray), false)))) = some (r1, r2) := h
 clear h
 replace H := Option.bind_eq_some_iff.mp H
 obtain ⟨t133, A20, H⟩ := H
 try dsimp only at H
 have A2 := Aside0.mk A20
 clear A20
 by_cases c3 : t133 = true
 ·subst c3
  have H1 : ((strconv_Itoa.f a0_1).bind fun t134 => (if t134.size + 1 ≤ 9223372036854775807 then (if a0_0 = 0 then (if 1 + (t134 ++ (⟨#[32]⟩ : ByteArray)).size ≤ 9223372036854775807 then (if ((⟨#[43]⟩ : ByteArray) ++ (t134 ++ (⟨#[32]⟩ : ByteArray))).size + a0_2.size ≤ 9223372036854775807 then (some (((⟨#[43]⟩ : ByteArray) ++ (t134 ++ (⟨#[32]⟩ : ByteArray))) ++ a0_2, true)) else (none)) else (none)) else (if a0_0 = 1 then (if 1 + (t134 ++ (⟨#[32]⟩ : ByteArray)).size ≤ 9223372036854775807 then (if ((⟨#[45]⟩ : ByteArray) ++ (t134 ++ (⟨#[32]⟩ : ByteArray))).size + a0_3.size ≤ 9223372036854775807 then (some (((⟨#[45]⟩ : ByteArray) ++ (t134 ++ (⟨#[32]⟩ : ByteArray))) ++ a0_3, true)) else (none)) else (none)) else (if 1 + (t134 ++ (⟨#[32]⟩ : ByteArray)).size ≤ 9223372036854775807 then (if ((⟨#[61]⟩ : ByteArray) ++ (t134 ++ (⟨#[32]⟩ : ByteArray))).size + a0_3.size ≤ 9223372036854775807 then (if (((⟨#[61]⟩ : ByteArray) ++ (t134 ++ (⟨#[32]⟩ : ByteArray))) ++ a0_3).size + 1 ≤ 9223372036854775807 then (if ((((⟨#[61]⟩ : ByteArray) ++ (t134 ++ (⟨#[32]⟩ : ByteArray))) ++ a0_3) ++ (⟨#[62]⟩ : ByteArray)).size + a0_2.size ≤ 9223372036854775807 then (some (((((⟨#[61]⟩ : ByteArray) ++ (t134 ++ (⟨#[32]⟩ : ByteArray))) ++ a0_3) ++ (⟨#[62]⟩ : ByteArray)) ++ a0_2, true)) else (none)) else (none)) else (none)) else (none)))) else (none))) = some (r1, r2) := by rw [if_pos rfl] at H; exact H
  clear H
  have H := H1
  clear H1
  replace H := Option.bind_eq_some_iff.mp H
  obtain ⟨t134, A40, H⟩ := H
  try dsimp only at H
  have A4 := Aside0.mk A40
  clear A40
  by_cases c5 : t134.size + 1 ≤ 9223372036854775807
  ·rw [if_pos c5] at H
   have c5b0 := eq_true c5
   have c5b1 : decide (t134.size + 1 ≤ 9223372036854775807) = true := decide_eq_true c5
   try have c5b2 : (9223372036854775807 < t134.size + 1) = False := eq_false (Nat.not_lt.2 c5)
   by_cases c6 : a0_0 = 0
   ·rw [if_pos c6] at H
    have c6b0 : (a0_0 == 0) = true := beq_iff_eq.mpr c6
    have c6b1 : (a0_0 != 0) = false := bne_eq_false_iff_eq.mpr c6
    clear c6
    by_cases c7 : 1 + (t134 ++ (⟨#[32]⟩ : ByteArray)).size ≤ 9223372036854775807
    ·rw [if_pos c7] at H
     have c7b0 := eq_true c7
     have c7b1 : decide (1 + (t134 ++ (⟨#[32]⟩ : ByteArray)).size ≤ 9223372036854775807) = true := decide_eq_true c7
     try have c7b2 : (9223372036854775807 < 1 + (t134 ++ (⟨#[32]⟩ : ByteArray)).size) = False := eq_false (Nat.not_lt.2 c7)
     (try have c7z : (9223372036854775807 < 1 + (t134.size + 1)) = False := eq_false (by have h1_ := c7; have h3_ : (⟨#[43]⟩ : ByteArray).size = 1 := rfl; have h6_ : (⟨#[45]⟩ : ByteArray).size = 1 := rfl; have h7_ : (⟨#[61]⟩ : ByteArray).size = 1 := rfl; have h4_ : (⟨#[32]⟩ : ByteArray).size = 1 := rfl; have h5_ : (⟨#[62]⟩ : ByteArray).size = 1 := rfl; simp only [ByteArray.size_append] at h1_; omega))
     by_cases c8 : ((⟨#[43]⟩ : ByteArray) ++ (t134 ++ (⟨#[32]⟩ : ByteArray))).size + a0_2.size ≤ 9223372036854775807
     ·rw [if_pos c8] at H
      have c8b0 := eq_true c8
      have c8b1 : decide (((⟨#[43]⟩ : ByteArray) ++ (t134 ++ (⟨#[32]⟩ : ByteArray))).size + a0_2.size ≤ 9223372036854775807) = true := decide_eq_true c8
      try have c8b2 : (9223372036854775807 < ((⟨#[43]⟩ : ByteArray) ++ (t134 ++ (⟨#[32]⟩ : ByteArray))).size + a0_2.size) = False := eq_false (Nat.not_lt.2 c8)
      (try have c8z : (9223372036854775807 < 1 + (t134.size + 1) + a0_2.size) = False := eq_false (by have h1_ := c8; have h3_ : (⟨#[43]⟩ : ByteArray).size = 1 := rfl; have h6_ : (⟨#[45]⟩ : ByteArray).size = 1 := rfl; have h7_ : (⟨#[61]⟩ : ByteArray).size = 1 := rfl; have h4_ : (⟨#[32]⟩ : ByteArray).size = 1 := rfl; have h5_ : (⟨#[62]⟩ : ByteArray).size = 1 := rfl; simp only [ByteArray.size_append] at h1_; omega))
      simp only [Option.some.injEq, Prod.mk.injEq] at H
      obtain ⟨rfl, rfl⟩ := H
      go_enter Tryd.func7, Tryd.ntmps7
      go_wp2_with (first | ((with_reducible refine gate_dst (N := 1) rfl ?_); refine box_event ?hg (N := 1) ?hd (cs := #[.int .i64 a0_0, .int .i64 a0_1, .string a0_2, .string a0_3]) (t := 27) ?hr ?_; (case hd => rfl); (case hg => rfl); (case hr => first | (go_simp; done) | (go_simp; rfl)); intro gb132 hg w9 hbox hb; have n0_ := Aside0.mk (bt_ HB hb); have n1_ := Aside0.mk (hbox); have n2_ := gz_ hg HB; have n3_ := gz_ hg HB; clear HB; have HB := n0_; have BK132 := n1_; have GW132 := n2_; have GE132 := n3_; clear n0_ n1_ n2_ n3_; clear hb hbox hg; have hcz10_0 := cz0_ BK132; have hcz10_1 := cz1_ BK132; have hcz10_2 := cz2_ BK132; have hcz10_3 := cz3_ BK132; have hfz10_0 := fz_ BK132 0; have hfz10_1 := fz_ BK132 1; have hfz10_2 := fz_ BK132 2; have hfz10_3 := fz_ BK132 3) | ((with_reducible refine gate_callee (f := 10) rfl ?_); refine goesL_ (some 6) rfl rfl Tryd.func10 (by kernel_rfl) rfl #[.agg #[.int .i64 a0_0, .int .i64 a0_1, .string a0_2, .string a0_3]] rfl args_ ?_; (with_reducible refine (impl_isDeskEdit.calls k a0_0 a0_1 a0_2 a0_3 true _ A2.out).mono ?_); rintro e w11 ⟨rfl, hb⟩; refine ⟨_, rfl, ?_⟩; have n0_ := Aside0.mk (lb_ BK132 hb); have n1_ := Aside0.mk (below_step (bb1_ HB GE132) hb); clear BK132; clear HB; have BK132 := n0_; have HB := n1_; clear n0_ n1_; (try clear hb); (try clear hb2); (try clear hk); (try clear hi); have hcz12_0 := cz0_ BK132; have hcz12_1 := cz1_ BK132; have hcz12_2 := cz2_ BK132; have hcz12_3 := cz3_ BK132; have hfz12_0 := fz_ BK132 0; have hfz12_1 := fz_ BK132 1; have hfz12_2 := fz_ BK132 2; have hfz12_3 := fz_ BK132 3) | ((with_reducible refine gate_callee (f := 11) rfl ?_); refine goesL_ (some 10) rfl rfl Tryd.func11 (by kernel_rfl) rfl #[.int .i64 a0_1] rfl args_ ?_; (with_reducible refine (strconv_Itoa.calls a0_1 t134 _ A4.out).mono ?_); rintro e w' ⟨rfl, ⟨nd, rfl⟩⟩; refine ⟨_, rfl, ?_⟩))
      go_ret2
      exact ⟨by first | rfl | (simp [errW_none, errW_some] <;> rfl) | (simp [*, errW_none, errW_some] <;> rfl), bb1_ HB GE132⟩
     ·rw [if_neg c8] at H
      exact absurd H (by simp)
    ·rw [if_neg c7] at H
     exact absurd H (by simp)
   ·rw [if_neg c6] at H
    have c6b0 : (a0_0 == 0) = false := beq_eq_false_iff_ne.mpr c6
    have c6b1 : (a0_0 != 0) = true := bne_iff_ne.mpr c6
    by_cases c13 : a0_0 = 1
    ·rw [if_pos c13] at H
     have c13b0 : (a0_0 == 1) = true := beq_iff_eq.mpr c13
     have c13b1 : (a0_0 != 1) = false := bne_eq_false_iff_eq.mpr c13
     clear c13
     by_cases c14 : 1 + (t134 ++ (⟨#[32]⟩ : ByteArray)).size ≤ 9223372036854775807
     ·rw [if_pos c14] at H
      have c14b0 := eq_true c14
      have c14b1 : decide (1 + (t134 ++ (⟨#[32]⟩ : ByteArray)).size ≤ 9223372036854775807) = true := decide_eq_true c14
      try have c14b2 : (9223372036854775807 < 1 + (t134 ++ (⟨#[32]⟩ : ByteArray)).size) = False := eq_false (Nat.not_lt.2 c14)
      (try have c14z : (9223372036854775807 < 1 + (t134.size + 1)) = False := eq_false (by have h1_ := c14; have h3_ : (⟨#[43]⟩ : ByteArray).size = 1 := rfl; have h6_ : (⟨#[45]⟩ : ByteArray).size = 1 := rfl; have h7_ : (⟨#[61]⟩ : ByteArray).size = 1 := rfl; have h4_ : (⟨#[32]⟩ : ByteArray).size = 1 := rfl; have h5_ : (⟨#[62]⟩ : ByteArray).size = 1 := rfl; simp only [ByteArray.size_append] at h1_; omega))
      by_cases c15 : ((⟨#[45]⟩ : ByteArray) ++ (t134 ++ (⟨#[32]⟩ : ByteArray))).size + a0_3.size ≤ 9223372036854775807
      ·rw [if_pos c15] at H
       have c15b0 := eq_true c15
       have c15b1 : decide (((⟨#[45]⟩ : ByteArray) ++ (t134 ++ (⟨#[32]⟩ : ByteArray))).size + a0_3.size ≤ 9223372036854775807) = true := decide_eq_true c15
       try have c15b2 : (9223372036854775807 < ((⟨#[45]⟩ : ByteArray) ++ (t134 ++ (⟨#[32]⟩ : ByteArray))).size + a0_3.size) = False := eq_false (Nat.not_lt.2 c15)
       (try have c15z : (9223372036854775807 < 1 + (t134.size + 1) + a0_3.size) = False := eq_false (by have h1_ := c15; have h3_ : (⟨#[43]⟩ : ByteArray).size = 1 := rfl; have h6_ : (⟨#[45]⟩ : ByteArray).size = 1 := rfl; have h7_ : (⟨#[61]⟩ : ByteArray).size = 1 := rfl; have h4_ : (⟨#[32]⟩ : ByteArray).size = 1 := rfl; have h5_ : (⟨#[62]⟩ : ByteArray).size = 1 := rfl; simp only [ByteArray.size_append] at h1_; omega))
       simp only [Option.some.injEq, Prod.mk.injEq] at H
       obtain ⟨rfl, rfl⟩ := H
       go_enter Tryd.func7, Tryd.ntmps7
       go_wp2_with (first | ((with_reducible refine gate_dst (N := 1) rfl ?_); refine box_event ?hg (N := 1) ?hd (cs := #[.int .i64 a0_0, .int .i64 a0_1, .string a0_2, .string a0_3]) (t := 27) ?hr ?_; (case hd => rfl); (case hg => rfl); (case hr => first | (go_simp; done) | (go_simp; rfl)); intro gb132 hg w16 hbox hb; have n0_ := Aside0.mk (bt_ HB hb); have n1_ := Aside0.mk (hbox); have n2_ := gz_ hg HB; have n3_ := gz_ hg HB; clear HB; have HB := n0_; have BK132 := n1_; have GW132 := n2_; have GE132 := n3_; clear n0_ n1_ n2_ n3_; clear hb hbox hg; have hcz17_0 := cz0_ BK132; have hcz17_1 := cz1_ BK132; have hcz17_2 := cz2_ BK132; have hcz17_3 := cz3_ BK132; have hfz17_0 := fz_ BK132 0; have hfz17_1 := fz_ BK132 1; have hfz17_2 := fz_ BK132 2; have hfz17_3 := fz_ BK132 3) | ((with_reducible refine gate_callee (f := 10) rfl ?_); refine goesL_ (some 6) rfl rfl Tryd.func10 (by kernel_rfl) rfl #[.agg #[.int .i64 a0_0, .int .i64 a0_1, .string a0_2, .string a0_3]] rfl args_ ?_; (with_reducible refine (impl_isDeskEdit.calls k a0_0 a0_1 a0_2 a0_3 true _ A2.out).mono ?_); rintro e w18 ⟨rfl, hb⟩; refine ⟨_, rfl, ?_⟩; have n0_ := Aside0.mk (lb_ BK132 hb); have n1_ := Aside0.mk (below_step (bb1_ HB GE132) hb); clear BK132; clear HB; have BK132 := n0_; have HB := n1_; clear n0_ n1_; (try clear hb); (try clear hb2); (try clear hk); (try clear hi); have hcz19_0 := cz0_ BK132; have hcz19_1 := cz1_ BK132; have hcz19_2 := cz2_ BK132; have hcz19_3 := cz3_ BK132; have hfz19_0 := fz_ BK132 0; have hfz19_1 := fz_ BK132 1; have hfz19_2 := fz_ BK132 2; have hfz19_3 := fz_ BK132 3) | ((with_reducible refine gate_callee (f := 11) rfl ?_); refine goesL_ (some 10) rfl rfl Tryd.func11 (by kernel_rfl) rfl #[.int .i64 a0_1] rfl args_ ?_; (with_reducible refine (strconv_Itoa.calls a0_1 t134 _ A4.out).mono ?_); rintro e w' ⟨rfl, ⟨nd, rfl⟩⟩; refine ⟨_, rfl, ?_⟩))
       go_ret2
       exact ⟨by first | rfl | (simp [errW_none, errW_some] <;> rfl) | (simp [*, errW_none, errW_some] <;> rfl), bb1_ HB GE132⟩
      ·rw [if_neg c15] at H
       exact absurd H (by simp)
     ·rw [if_neg c14] at H
      exact absurd H (by simp)
    ·rw [if_neg c13] at H
     have c13b0 : (a0_0 == 1) = false := beq_eq_false_iff_ne.mpr c13
     have c13b1 : (a0_0 != 1) = true := bne_iff_ne.mpr c13
     by_cases c20 : 1 + (t134 ++ (⟨#[32]⟩ : ByteArray)).size ≤ 9223372036854775807
     ·rw [if_pos c20] at H
      have c20b0 := eq_true c20
      have c20b1 : decide (1 + (t134 ++ (⟨#[32]⟩ : ByteArray)).size ≤ 9223372036854775807) = true := decide_eq_true c20
      try have c20b2 : (9223372036854775807 < 1 + (t134 ++ (⟨#[32]⟩ : ByteArray)).size) = False := eq_false (Nat.not_lt.2 c20)
      (try have c20z : (9223372036854775807 < 1 + (t134.size + 1)) = False := eq_false (by have h1_ := c20; have h3_ : (⟨#[43]⟩ : ByteArray).size = 1 := rfl; have h6_ : (⟨#[45]⟩ : ByteArray).size = 1 := rfl; have h7_ : (⟨#[61]⟩ : ByteArray).size = 1 := rfl; have h4_ : (⟨#[32]⟩ : ByteArray).size = 1 := rfl; have h5_ : (⟨#[62]⟩ : ByteArray).size = 1 := rfl; simp only [ByteArray.size_append] at h1_; omega))
      by_cases c21 : ((⟨#[61]⟩ : ByteArray) ++ (t134 ++ (⟨#[32]⟩ : ByteArray))).size + a0_3.size ≤ 9223372036854775807
      ·rw [if_pos c21] at H
       have c21b0 := eq_true c21
       have c21b1 : decide (((⟨#[61]⟩ : ByteArray) ++ (t134 ++ (⟨#[32]⟩ : ByteArray))).size + a0_3.size ≤ 9223372036854775807) = true := decide_eq_true c21
       try have c21b2 : (9223372036854775807 < ((⟨#[61]⟩ : ByteArray) ++ (t134 ++ (⟨#[32]⟩ : ByteArray))).size + a0_3.size) = False := eq_false (Nat.not_lt.2 c21)
       (try have c21z : (9223372036854775807 < 1 + (t134.size + 1) + a0_3.size) = False := eq_false (by have h1_ := c21; have h3_ : (⟨#[43]⟩ : ByteArray).size = 1 := rfl; have h6_ : (⟨#[45]⟩ : ByteArray).size = 1 := rfl; have h7_ : (⟨#[61]⟩ : ByteArray).size = 1 := rfl; have h4_ : (⟨#[32]⟩ : ByteArray).size = 1 := rfl; have h5_ : (⟨#[62]⟩ : ByteArray).size = 1 := rfl; simp only [ByteArray.size_append] at h1_; omega))
       by_cases c22 : (((⟨#[61]⟩ : ByteArray) ++ (t134 ++ (⟨#[32]⟩ : ByteArray))) ++ a0_3).size + 1 ≤ 9223372036854775807
       ·rw [if_pos c22] at H
        have c22b0 := eq_true c22
        have c22b1 : decide ((((⟨#[61]⟩ : ByteArray) ++ (t134 ++ (⟨#[32]⟩ : ByteArray))) ++ a0_3).size + 1 ≤ 9223372036854775807) = true := decide_eq_true c22
        try have c22b2 : (9223372036854775807 < (((⟨#[61]⟩ : ByteArray) ++ (t134 ++ (⟨#[32]⟩ : ByteArray))) ++ a0_3).size + 1) = False := eq_false (Nat.not_lt.2 c22)
        (try have c22z : (9223372036854775807 < 1 + (t134.size + 1) + a0_3.size + 1) = False := eq_false (by have h1_ := c22; have h3_ : (⟨#[43]⟩ : ByteArray).size = 1 := rfl; have h6_ : (⟨#[45]⟩ : ByteArray).size = 1 := rfl; have h7_ : (⟨#[61]⟩ : ByteArray).size = 1 := rfl; have h4_ : (⟨#[32]⟩ : ByteArray).size = 1 := rfl; have h5_ : (⟨#[62]⟩ : ByteArray).size = 1 := rfl; simp only [ByteArray.size_append] at h1_; omega))
        by_cases c23 : ((((⟨#[61]⟩ : ByteArray) ++ (t134 ++ (⟨#[32]⟩ : ByteArray))) ++ a0_3) ++ (⟨#[62]⟩ : ByteArray)).size + a0_2.size ≤ 9223372036854775807
        ·rw [if_pos c23] at H
         have c23b0 := eq_true c23
         have c23b1 : decide (((((⟨#[61]⟩ : ByteArray) ++ (t134 ++ (⟨#[32]⟩ : ByteArray))) ++ a0_3) ++ (⟨#[62]⟩ : ByteArray)).size + a0_2.size ≤ 9223372036854775807) = true := decide_eq_true c23
         try have c23b2 : (9223372036854775807 < ((((⟨#[61]⟩ : ByteArray) ++ (t134 ++ (⟨#[32]⟩ : ByteArray))) ++ a0_3) ++ (⟨#[62]⟩ : ByteArray)).size + a0_2.size) = False := eq_false (Nat.not_lt.2 c23)
         (try have c23z : (9223372036854775807 < 1 + (t134.size + 1) + a0_3.size + 1 + a0_2.size) = False := eq_false (by have h1_ := c23; have h3_ : (⟨#[43]⟩ : ByteArray).size = 1 := rfl; have h6_ : (⟨#[45]⟩ : ByteArray).size = 1 := rfl; have h7_ : (⟨#[61]⟩ : ByteArray).size = 1 := rfl; have h4_ : (⟨#[32]⟩ : ByteArray).size = 1 := rfl; have h5_ : (⟨#[62]⟩ : ByteArray).size = 1 := rfl; simp only [ByteArray.size_append] at h1_; omega))
         simp only [Option.some.injEq, Prod.mk.injEq] at H
         obtain ⟨rfl, rfl⟩ := H
         go_enter Tryd.func7, Tryd.ntmps7
         go_wp2_with (first | ((with_reducible refine gate_dst (N := 1) rfl ?_); refine box_event ?hg (N := 1) ?hd (cs := #[.int .i64 a0_0, .int .i64 a0_1, .string a0_2, .string a0_3]) (t := 27) ?hr ?_; (case hd => rfl); (case hg => rfl); (case hr => first | (go_simp; done) | (go_simp; rfl)); intro gb132 hg w24 hbox hb; have n0_ := Aside0.mk (bt_ HB hb); have n1_ := Aside0.mk (hbox); have n2_ := gz_ hg HB; have n3_ := gz_ hg HB; clear HB; have HB := n0_; have BK132 := n1_; have GW132 := n2_; have GE132 := n3_; clear n0_ n1_ n2_ n3_; clear hb hbox hg; have hcz25_0 := cz0_ BK132; have hcz25_1 := cz1_ BK132; have hcz25_2 := cz2_ BK132; have hcz25_3 := cz3_ BK132; have hfz25_0 := fz_ BK132 0; have hfz25_1 := fz_ BK132 1; have hfz25_2 := fz_ BK132 2; have hfz25_3 := fz_ BK132 3) | ((with_reducible refine gate_callee (f := 10) rfl ?_); refine goesL_ (some 6) rfl rfl Tryd.func10 (by kernel_rfl) rfl #[.agg #[.int .i64 a0_0, .int .i64 a0_1, .string a0_2, .string a0_3]] rfl args_ ?_; (with_reducible refine (impl_isDeskEdit.calls k a0_0 a0_1 a0_2 a0_3 true _ A2.out).mono ?_); rintro e w26 ⟨rfl, hb⟩; refine ⟨_, rfl, ?_⟩; have n0_ := Aside0.mk (lb_ BK132 hb); have n1_ := Aside0.mk (below_step (bb1_ HB GE132) hb); clear BK132; clear HB; have BK132 := n0_; have HB := n1_; clear n0_ n1_; (try clear hb); (try clear hb2); (try clear hk); (try clear hi); have hcz27_0 := cz0_ BK132; have hcz27_1 := cz1_ BK132; have hcz27_2 := cz2_ BK132; have hcz27_3 := cz3_ BK132; have hfz27_0 := fz_ BK132 0; have hfz27_1 := fz_ BK132 1; have hfz27_2 := fz_ BK132 2; have hfz27_3 := fz_ BK132 3) | ((with_reducible refine gate_callee (f := 11) rfl ?_); refine goesL_ (some 10) rfl rfl Tryd.func11 (by kernel_rfl) rfl #[.int .i64 a0_1] rfl args_ ?_; (with_reducible refine (strconv_Itoa.calls a0_1 t134 _ A4.out).mono ?_); rintro e w' ⟨rfl, ⟨nd, rfl⟩⟩; refine ⟨_, rfl, ?_⟩))
         go_ret2
         exact ⟨by first | rfl | (simp [errW_none, errW_some] <;> rfl) | (simp [*, errW_none, errW_some] <;> rfl), bb1_ HB GE132⟩
        ·rw [if_neg c23] at H
         exact absurd H (by simp)
       ·rw [if_neg c22] at H
        exact absurd H (by simp)
      ·rw [if_neg c21] at H
       exact absurd H (by simp)
     ·rw [if_neg c20] at H
      exact absurd H (by simp)
  ·rw [if_neg c5] at H
   exact absurd H (by simp)
 ·replace c3 := Bool.eq_false_iff.mpr c3
  subst c3
  have H1 : (some ((⟨#[]⟩ : ByteArray), false)) = some (r1, r2) := by rw [if_neg (show ¬ (false = true) by decide)] at H; exact H
  clear H
  have H := H1
  clear H1
  simp only [Option.some.injEq, Prod.mk.injEq] at H
  obtain ⟨rfl, rfl⟩ := H
  go_enter Tryd.func7, Tryd.ntmps7
  go_wp2_with (first | ((with_reducible refine gate_dst (N := 1) rfl ?_); refine box_event ?hg (N := 1) ?hd (cs := #[.int .i64 a0_0, .int .i64 a0_1, .string a0_2, .string a0_3]) (t := 27) ?hr ?_; (case hd => rfl); (case hg => rfl); (case hr => first | (go_simp; done) | (go_simp; rfl)); intro gb132 hg w28 hbox hb; have n0_ := Aside0.mk (bt_ HB hb); have n1_ := Aside0.mk (hbox); have n2_ := gz_ hg HB; have n3_ := gz_ hg HB; clear HB; have HB := n0_; have BK132 := n1_; have GW132 := n2_; have GE132 := n3_; clear n0_ n1_ n2_ n3_; clear hb hbox hg; have hcz29_0 := cz0_ BK132; have hcz29_1 := cz1_ BK132; have hcz29_2 := cz2_ BK132; have hcz29_3 := cz3_ BK132; have hfz29_0 := fz_ BK132 0; have hfz29_1 := fz_ BK132 1; have hfz29_2 := fz_ BK132 2; have hfz29_3 := fz_ BK132 3) | ((with_reducible refine gate_callee (f := 10) rfl ?_); refine goesL_ (some 6) rfl rfl Tryd.func10 (by kernel_rfl) rfl #[.agg #[.int .i64 a0_0, .int .i64 a0_1, .string a0_2, .string a0_3]] rfl args_ ?_; (with_reducible refine (impl_isDeskEdit.calls k a0_0 a0_1 a0_2 a0_3 false _ A2.out).mono ?_); rintro e w30 ⟨rfl, hb⟩; refine ⟨_, rfl, ?_⟩; have n0_ := Aside0.mk (lb_ BK132 hb); have n1_ := Aside0.mk (below_step (bb1_ HB GE132) hb); clear BK132; clear HB; have BK132 := n0_; have HB := n1_; clear n0_ n1_; (try clear hb); (try clear hb2); (try clear hk); (try clear hi)))
  go_ret2
  exact ⟨by first | rfl | (simp [errW_none, errW_some] <;> rfl) | (simp [*, errW_none, errW_some] <;> rfl), bb1_ HB GE132⟩

/-! ### laws_FnExactEditText: function 3 -/
def laws_FnExactEditText.f (k : Nat) (a0_0 : Int) (a0_1 : Int) (a0_2 : ByteArray) (a0_3 : ByteArray) : Option (Bool) := (laws_szDeskEdit.f a0_0 a0_1 a0_2 a0_3 1048576).bind fun t136 => (if t136 < 0 then (some true) else ((laws_toDeskEdit.f a0_0 a0_1 a0_2 a0_3).bind fun bt137 => ((spec_EditText.f k bt137.1 bt137.2.1 bt137.2.2.1 bt137.2.2.2).bind fun bt141 => ((laws_toDeskEdit.f a0_0 a0_1 a0_2 a0_3).bind fun bt143 => ((impl_EditText.f k bt143.1 bt143.2.1 bt143.2.2.1 bt143.2.2.2).bind fun bt147 => (if bt147.1.toList = bt141.1.toList then (if (bt147.2 != bt141.2) = true then (none) else (some true)) else (none)))))))
theorem laws_FnExactEditText.mono : ∀ a0 a1 a2 a3 k, LeO (laws_FnExactEditText.f k a0 a1 a2 a3) (laws_FnExactEditText.f (k + 1) a0 a1 a2 a3) := by
 intro a0 a1 a2 a3 k
 unfold laws_FnExactEditText.f
 repeat' first
   | (with_reducible exact impl_EditText.mono _ _ _ _ _)
   | (with_reducible exact spec_EditText.mono _ _ _ _ _)
   | (with_reducible exact LeO.refl _)
   | (with_reducible exact LeO.none _)
   | (with_reducible refine LeO.ite ?_ ?_)
   | (with_reducible refine LeO.bind ?_ (fun _ => ?_))
   | exact LeO.none _
   | refine LeO.ite ?_ ?_
   | refine LeO.bind ?_ (fun _ => ?_)
set_option maxHeartbeats 8000000 in
set_option maxRecDepth 100000 in
theorem laws_FnExactEditText.calls (k : Nat) (a0_0 : Int) (a0_1 : Int) (a0_2 : ByteArray) (a0_3 : ByteArray) (r : Bool) (w : World) (h : laws_FnExactEditText.f k a0_0 a0_1 a0_2 a0_3 = some r) :
  Calls Tryd.prog 3 #[.agg #[.int .i64 a0_0, .int .i64 a0_1, .string a0_2, .string a0_3]] w fun e w' => e = .returned (.bool r) ∧ Below w.heap.size w w' := by
 have hu23 := Tryd.underlying23
 have HB := Aside0.mk (Below.refl w.heap.size w)
 have H : ((laws_szDeskEdit.f a0_0 a0_1 a0_2 a0_3 1048576).bind fun t136 => (if t136 < 0 then (some true) else ((laws_toDeskEdit.f a0_0 a0_1 a0_2 a0_3).bind fun bt137 => ((spec_EditText.f k bt137.1 bt137.2.1 bt137.2.2.1 bt137.2.2.2).bind fun bt141 => ((laws_toDeskEdit.f a0_0 a0_1 a0_2 a0_3).bind fun bt143 => ((impl_EditText.f k bt143.1 bt143.2.1 bt143.2.2.1 bt143.2.2.2).bind fun bt147 => (if bt147.1.toList = bt141.1.toList then (if (bt147.2 != bt141.2) = true then (none) else (some true)) else (none)))))))) = some r := h
 clear h
 replace H := Option.bind_eq_some_iff.mp H
 obtain ⟨t136, A20, H⟩ := H
 try dsimp only at H
 have A2 := Aside0.mk A20
 clear A20
 by_cases c3 : t136 < 0
 ·rw [if_pos c3] at H
  have c3b0 : decide (t136 < 0) = true := decide_eq_true c3
  clear c3
  obtain rfl := Option.some.inj H
  go_enter Tryd.func3, Tryd.ntmps3
  go_wp2_with (first | ((with_reducible refine gate_dst (N := 1) rfl ?_); refine box_event ?hg (N := 1) ?hd (cs := #[.int .i64 a0_0, .int .i64 a0_1, .string a0_2, .string a0_3]) (t := 23) ?hr ?_; (case hd => rfl); (case hg => rfl); (case hr => first | (go_simp; done) | (go_simp; rfl)); intro gb135 hg w4 hbox hb; have n0_ := Aside0.mk (bt_ HB hb); have n1_ := Aside0.mk (hbox); have n2_ := gz_ hg HB; have n3_ := gz_ hg HB; clear HB; have HB := n0_; have BK135 := n1_; have GW135 := n2_; have GE135 := n3_; clear n0_ n1_ n2_ n3_; clear hb hbox hg; have hcz5_0 := cz0_ BK135; have hcz5_1 := cz1_ BK135; have hcz5_2 := cz2_ BK135; have hcz5_3 := cz3_ BK135; have hfz5_0 := fz_ BK135 0; have hfz5_1 := fz_ BK135 1; have hfz5_2 := fz_ BK135 2; have hfz5_3 := fz_ BK135 3) | ((with_reducible refine gate_callee (f := 4) rfl ?_); refine goesL_ (some 10) rfl rfl Tryd.func4 (by kernel_rfl) rfl #[.agg #[.int .i64 a0_0, .int .i64 a0_1, .string a0_2, .string a0_3], .int .i64 1048576] rfl args_ ?_; (with_reducible refine (laws_szDeskEdit.calls a0_0 a0_1 a0_2 a0_3 1048576 t136 _ A2.out).mono ?_); rintro e w6 ⟨rfl, hb⟩; refine ⟨_, rfl, ?_⟩; have n0_ := Aside0.mk (lb_ BK135 hb); have n1_ := Aside0.mk (below_step (bb1_ HB GE135) hb); clear BK135; clear HB; have BK135 := n0_; have HB := n1_; clear n0_ n1_; (try clear hb); (try clear hb2); (try clear hk); (try clear hi)))
  go_ret
  exact ⟨by first | rfl | (simp [errW_none, errW_some] <;> rfl) | (simp [*, errW_none, errW_some] <;> rfl), bb1_ HB GE135⟩
 ·rw [if_neg c3] at H
  have c3b0 : decide (t136 < 0) = false := decide_eq_false c3
  clear c3
  replace H := Option.bind_eq_some_iff.mp H
  obtain ⟨⟨t137, t138, t139, t140⟩, A70, H⟩ := H
  try dsimp only at H
  have A7 := Aside0.mk A70
  clear A70
  replace H := Option.bind_eq_some_iff.mp H
  obtain ⟨⟨t141, t142⟩, A80, H⟩ := H
  try dsimp only at H
  have A8 := Aside0.mk A80
  clear A80
  replace H := Option.bind_eq_some_iff.mp H
  obtain ⟨⟨t143, t144, t145, t146⟩, A90, H⟩ := H
  try dsimp only at H
  have A9 := Aside0.mk A90
  clear A90
  replace H := Option.bind_eq_some_iff.mp H
  obtain ⟨⟨t147, t148⟩, A100, H⟩ := H
  try dsimp only at H
  have A10 := Aside0.mk A100
  clear A100
  by_cases c11 : t147.toList = t141.toList
  ·rw [if_pos c11] at H
   have c11b0 : (t147.toList == t141.toList) = true := beq_iff_eq.mpr c11
   have c11b1 : (t147.toList != t141.toList) = false := bne_eq_false_iff_eq.mpr c11
   clear c11
   by_cases c12 : (t148 != t142) = true
   ·rw [if_pos c12] at H
    exact absurd H (by simp)
   ·rw [if_neg c12] at H
    have c12b0 : (t148 != t142) = false := by simpa using c12
    (try (have c12b1 : decide (t148 = t142) = true := by simpa using c12))
    (try (have c12b2 : (t148 == t142) = true := by simpa using c12))
    clear c12
    obtain rfl := Option.some.inj H
    go_enter Tryd.func3, Tryd.ntmps3
    go_wp2_with (first | ((with_reducible refine gate_dst (N := 1) rfl ?_); refine box_event ?hg (N := 1) ?hd (cs := #[.int .i64 a0_0, .int .i64 a0_1, .string a0_2, .string a0_3]) (t := 23) ?hr ?_; (case hd => rfl); (case hg => rfl); (case hr => first | (go_simp; done) | (go_simp; rfl)); intro gb135 hg w13 hbox hb; have n0_ := Aside0.mk (bt_ HB hb); have n1_ := Aside0.mk (hbox); have n2_ := gz_ hg HB; have n3_ := gz_ hg HB; clear HB; have HB := n0_; have BK135 := n1_; have GW135 := n2_; have GE135 := n3_; clear n0_ n1_ n2_ n3_; clear hb hbox hg; have hcz14_0 := cz0_ BK135; have hcz14_1 := cz1_ BK135; have hcz14_2 := cz2_ BK135; have hcz14_3 := cz3_ BK135; have hfz14_0 := fz_ BK135 0; have hfz14_1 := fz_ BK135 1; have hfz14_2 := fz_ BK135 2; have hfz14_3 := fz_ BK135 3) | ((with_reducible refine gate_callee (f := 4) rfl ?_); refine goesL_ (some 10) rfl rfl Tryd.func4 (by kernel_rfl) rfl #[.agg #[.int .i64 a0_0, .int .i64 a0_1, .string a0_2, .string a0_3], .int .i64 1048576] rfl args_ ?_; (with_reducible refine (laws_szDeskEdit.calls a0_0 a0_1 a0_2 a0_3 1048576 t136 _ A2.out).mono ?_); rintro e w15 ⟨rfl, hb⟩; refine ⟨_, rfl, ?_⟩; have n0_ := Aside0.mk (lb_ BK135 hb); have n1_ := Aside0.mk (below_step (bb1_ HB GE135) hb); clear BK135; clear HB; have BK135 := n0_; have HB := n1_; clear n0_ n1_; (try clear hb); (try clear hb2); (try clear hk); (try clear hi); have hcz16_0 := cz0_ BK135; have hcz16_1 := cz1_ BK135; have hcz16_2 := cz2_ BK135; have hcz16_3 := cz3_ BK135; have hfz16_0 := fz_ BK135 0; have hfz16_1 := fz_ BK135 1; have hfz16_2 := fz_ BK135 2; have hfz16_3 := fz_ BK135 3) | ((with_reducible refine gate_callee (f := 6) rfl ?_); refine goesL_ (some 15) rfl rfl Tryd.func6 (by kernel_rfl) rfl #[.agg #[.int .i64 a0_0, .int .i64 a0_1, .string a0_2, .string a0_3]] rfl args_ ?_; (with_reducible refine (laws_toDeskEdit.calls a0_0 a0_1 a0_2 a0_3 t137 t138 t139 t140 _ A7.out).mono ?_); rintro e w17 ⟨rfl, hb⟩; refine ⟨_, rfl, ?_⟩; have n0_ := Aside0.mk (lb_ BK135 hb); have n1_ := Aside0.mk (below_step (bb1_ HB GE135) hb); clear BK135; clear HB; have BK135 := n0_; have HB := n1_; clear n0_ n1_; (try clear hb); (try clear hb2); (try clear hk); (try clear hi)) | ((with_reducible refine gate_callee (f := 5) rfl ?_); refine goesL_ (some 16) rfl rfl Tryd.func5 (by kernel_rfl) rfl #[.agg #[.int .i64 t137, .int .i64 t138, .string t139, .string t140]] rfl args_ ?_; (with_reducible refine (spec_EditText.calls k t137 t138 t139 t140 t141 t142 _ A8.out).mono ?_); rintro e w18 ⟨rfl, hb⟩; refine ⟨_, rfl, ?_⟩; have n0_ := Aside0.mk (lb_ BK135 hb); have n1_ := Aside0.mk (below_step (bb1_ HB GE135) hb); clear BK135; clear HB; have BK135 := n0_; have HB := n1_; clear n0_ n1_; (try clear hb); (try clear hb2); (try clear hk); (try clear hi); have hcz19_0 := cz0_ BK135; have hcz19_1 := cz1_ BK135; have hcz19_2 := cz2_ BK135; have hcz19_3 := cz3_ BK135; have hfz19_0 := fz_ BK135 0; have hfz19_1 := fz_ BK135 1; have hfz19_2 := fz_ BK135 2; have hfz19_3 := fz_ BK135 3) | ((with_reducible refine gate_callee (f := 6) rfl ?_); refine goesL_ (some 21) rfl rfl Tryd.func6 (by kernel_rfl) rfl #[.agg #[.int .i64 a0_0, .int .i64 a0_1, .string a0_2, .string a0_3]] rfl args_ ?_; (with_reducible refine (laws_toDeskEdit.calls a0_0 a0_1 a0_2 a0_3 t143 t144 t145 t146 _ A9.out).mono ?_); rintro e w20 ⟨rfl, hb⟩; refine ⟨_, rfl, ?_⟩; have n0_ := Aside0.mk (lb_ BK135 hb); have n1_ := Aside0.mk (below_step (bb1_ HB GE135) hb); clear BK135; clear HB; have BK135 := n0_; have HB := n1_; clear n0_ n1_; (try clear hb); (try clear hb2); (try clear hk); (try clear hi)) | ((with_reducible refine gate_callee (f := 7) rfl ?_); refine goesL_ (some 22) rfl rfl Tryd.func7 (by kernel_rfl) rfl #[.agg #[.int .i64 t143, .int .i64 t144, .string t145, .string t146]] rfl args_ ?_; (with_reducible refine (impl_EditText.calls k t143 t144 t145 t146 t147 t148 _ A10.out).mono ?_); rintro e w21 ⟨rfl, hb⟩; refine ⟨_, rfl, ?_⟩; have n0_ := Aside0.mk (lb_ BK135 hb); have n1_ := Aside0.mk (below_step (bb1_ HB GE135) hb); clear BK135; clear HB; have BK135 := n0_; have HB := n1_; clear n0_ n1_; (try clear hb); (try clear hb2); (try clear hk); (try clear hi)))
    go_ret
    exact ⟨by first | rfl | (simp [errW_none, errW_some] <;> rfl) | (simp [*, errW_none, errW_some] <;> rfl), bb1_ HB GE135⟩
  ·rw [if_neg c11] at H
   exact absurd H (by simp)

end Go.Proofs.YtmmpnigbfiebbaaDoor.PA
