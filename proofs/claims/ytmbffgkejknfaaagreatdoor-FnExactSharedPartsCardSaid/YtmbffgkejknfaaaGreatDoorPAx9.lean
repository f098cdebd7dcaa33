-- Written by a program of this session (wip/tools/myprint.py). Not trusted: Lean checks it.
import Derived.Test.YtmbffgkejknfaaaGreatDoorSq4
import Derived.Test.YtmbffgkejknfaaaGreatDoorPAx0
namespace Go.Proofs.YtmbffgkejknfaaaGreatDoor.PA
open Go.RowKit Go.Proofs.YtmbffgkejknfaaaGreatDoorW.PrintWords Go.Proofs.YtmbffgkejknfaaaGreatDoorW.PrintLast Go.Proofs.YtmbffgkejknfaaaGreatDoorW.PrintMore
attribute [local go_sem] max2_int min2_int max_two min_two max_three min_three max_four min_four   -- for this text's walks alone
set_option linter.unusedVariables false
set_option linter.unusedSimpArgs false

/-! ### spec_mvMirror: function 84 -/
def spec_mvMirror.l0 : Nat → ByteArray → Int → ByteArray → Int → Option (ByteArray × Int)
 | 0, _, _, _, _ => none
 | k + 1, x3, x4, x181000, x181001 => if x4 < (x181000.size : Int) then (if 0 ≤ x4 then (if (bt x181000 x4) = 108 then (if x3.size + 1 ≤ 9223372036854775807 then (spec_mvMirror.l0 k (x3 ++ (⟨#[114]⟩ : ByteArray)) (wrap64 (x4 + 1)) x181000 x181001) else (none)) else (if (bt x181000 x4) = 114 then (if x3.size + 1 ≤ 9223372036854775807 then (spec_mvMirror.l0 k (x3 ++ (⟨#[108]⟩ : ByteArray)) (wrap64 (x4 + 1)) x181000 x181001) else (none)) else (if x4 ≤ (wrap64 (x4 + 1)) then (if (wrap64 (x4 + 1)) ≤ (x181000.size : Int) then (if x3.size + (x181000.extract (x4 : Int).toNat ((wrap64 (x4 + 1)) : Int).toNat).size ≤ 9223372036854775807 then (spec_mvMirror.l0 k (x3 ++ (x181000.extract (x4 : Int).toNat ((wrap64 (x4 + 1)) : Int).toNat)) (wrap64 (x4 + 1)) x181000 x181001) else (none)) else (none)) else (none)))) else (none)) else (some (x3, x181001))
def spec_mvMirror.f (k : Nat) (a0_0 : ByteArray) (a0_1 : Int) : Option (ByteArray × Int) := spec_mvMirror.l0 k (⟨#[]⟩ : ByteArray) 0 a0_0 a0_1
theorem spec_mvMirror.mono_l : ∀ k, (∀ y0 y1 y2 y3, LeO (spec_mvMirror.l0 k y0 y1 y2 y3) (spec_mvMirror.l0 (k + 1) y0 y1 y2 y3))
 | 0 => fun _ _ _ _ r h => by simp [spec_mvMirror.l0] at h
 | k + 1 => by
  have ih0 := spec_mvMirror.mono_l k
  ·intro y0 y1 y2 y3
   unfold spec_mvMirror.l0
   repeat' first
   | (with_reducible exact ih0 _ _ _ _)
   | (with_reducible exact LeO.refl _)
   | (with_reducible exact LeO.none _)
   | (with_reducible refine LeO.ite ?_ ?_)
   | (with_reducible refine LeO.bind ?_ (fun _ => ?_))
   | exact ih0 _ _ _ _
   | exact LeO.none _
   | refine LeO.ite ?_ ?_
   | refine LeO.bind ?_ (fun _ => ?_)
theorem spec_mvMirror.mono : ∀ a0 a1 k, LeO (spec_mvMirror.f k a0 a1) (spec_mvMirror.f (k + 1) a0 a1) := by
 intro a0 a1 k
 have ih0 := spec_mvMirror.mono_l k
 unfold spec_mvMirror.f
 repeat' first
   | (with_reducible exact ih0 _ _ _ _)
   | (with_reducible exact LeO.refl _)
   | (with_reducible exact LeO.none _)
   | (with_reducible refine LeO.ite ?_ ?_)
   | (with_reducible refine LeO.bind ?_ (fun _ => ?_))
   | exact ih0 _ _ _ _
   | exact LeO.none _
   | refine LeO.ite ?_ ?_
   | refine LeO.bind ?_ (fun _ => ?_)
set_option maxHeartbeats 8000000 in
set_option maxRecDepth 100000 in
theorem spec_mvMirror.calls (k : Nat) (a0_0 : ByteArray) (a0_1 : Int) (r1 : ByteArray) (r2 : Int) (w : World) (h : spec_mvMirror.f k a0_0 a0_1 = some (r1, r2)) :
  Calls Tryz.prog 84 #[.agg #[.string a0_0, .int .i64 a0_1]] w fun e w' => e = .returned (.agg #[.string r1, .int .i64 r2]) ∧ Below w.heap.size w w' := by
 have hu40 := Tryz.underlying40
 have HB := am_ (Below.refl w.heap.size w)
 have H : (spec_mvMirror.l0 k (⟨#[]⟩ : ByteArray) 0 a0_0 a0_1) = some (r1, r2) := h
 clear h
 have H' := Aside0.mk H
 clear H
 go_enter Tryz.func84, Tryz.ntmps84
 go_wp2_with (first | ((with_reducible refine gate_dst (N := 1) rfl ?_); refine bx_ (cs := #[.string a0_0, .int .i64 a0_1]) (t := 40) ?_; intro gb180 hg w2 hbox hb; have BK180 := am_ (hbox); have GW180 := gz_ hg HB; have GE180 := gz_ hg HB; replace HB := am_ (bt_ HB hb); clear hb hbox hg) | ((with_reducible refine gate_dst (N := 2) rfl ?_); refine bx_ (cs := #[.string (⟨#[]⟩ : ByteArray), .int .i64 0]) (t := 40) ?_; intro gb181 hg w3 hbox hb; have BK181 := am_ (hbox); have GW181 := gy_ hg (bb1_ HB GE180); have GE181 := gy_ hg (bb1_ HB GE180); replace HB := am_ (below_step (bb1_ HB GE180) hb); have NB180_181 := nl_ hg BK180; have NB181_180 := ng_ hg BK180; replace BK180 := am_ (lb_ BK180 hb); clear hb hbox hg))
 go_loopg [3, 4] k (fun kq v3 v4 w' => ∃ (x3_1 : ByteArray) (x4_1 : Int), v3 = .string x3_1 ∧ v4 = .int .i64 x4_1 ∧ Aside0 (spec_mvMirror.l0 kq x3_1 x4_1 a0_0 a0_1 = some (r1, r2)) ∧ Aside0 (kq ≤ k) ∧ Aside0 (w'.heap[gb180]? = some (.cells #[.string a0_0, .int .i64 a0_1] 40 (0, 0))) ∧ Aside0 (w'.heap[gb181]? = some (.cells #[.string (⟨#[]⟩ : ByteArray), .int .i64 0] 40 (0, 0))) ∧ Aside0 (Below w.heap.size w w'))
 case atStart => exact ⟨((⟨#[]⟩ : ByteArray)), (0), (by first | rfl | (simp; done) | (simp [*]; done)), (by first | rfl | (simp; done) | (simp [*]; done)), H', ⟨Nat.le_refl _⟩, ⟨by (with_reducible repeat (first | apply lN_ | apply lD_ | apply lA_)); exact BK180.out⟩, ⟨by (with_reducible repeat (first | apply lN_ | apply lD_ | apply lA_)); exact BK181.out⟩, ⟨bb2_ HB GE180 GE181⟩⟩
 case round =>
  clear H'
  try clear p2
  obtain ⟨x3_1, x4_1, rfl, rfl, HA, HK1, BK180, BK181, HB⟩ := hrel
  cases gk with
  | zero => exact absurd HA.out (by simp [spec_mvMirror.l0])
  | succ k1 =>
   have H := HA.out
   clear HA
   simp only [spec_mvMirror.l0] at H
   by_cases c4 : x4_1 < (a0_0.size : Int)
   ·rw [if_pos c4] at H
    have c4b0 : decide (x4_1 < (a0_0.size : Int)) = true := decide_eq_true c4
    clear c4
    by_cases c5 : 0 ≤ x4_1
    ·rw [if_pos c5] at H
     have c5b0 : decide (0 ≤ x4_1) = true := decide_eq_true c5
     clear c5
     by_cases c7 : (bt a0_0 x4_1) = 108
     ·rw [if_pos c7] at H
      have c7b0 : ((bt a0_0 x4_1) == 108) = true := beq_iff_eq.mpr c7
      have c7b1 : ((bt a0_0 x4_1) != 108) = false := bne_eq_false_iff_eq.mpr c7
      clear c7
      by_cases c8 : x3_1.size + 1 ≤ 9223372036854775807
      ·rw [if_pos c8] at H
       have c8b0 := eq_true c8
       have c8b1 : decide (x3_1.size + 1 ≤ 9223372036854775807) = true := decide_eq_true c8
       try have c8b2 : (9223372036854775807 < x3_1.size + 1) = False := eq_false (Nat.not_lt.2 c8)
       have H' := Aside0.mk H
       clear H
       have hnb9 := NB180_181.out
       have hnc9 := NB181_180.out
       have hcz10_0 := cz0_ BK180
       have hcz10_1 := cz1_ BK180
       have p6 : 0 ≤ (x4_1 : Int) := of_decide_eq_true as_
       have q6 : x4_1 < (a0_0.size : Int) := of_decide_eq_true as_
       have hx6 := bt_at a0_0 x4_1
       replace p6 := eq_true p6
       replace q6 := eq_true q6
       go_wp2
       go_roundg k1
       case measure => have := HK1.out; omega
       case rel => exact ⟨(x3_1 ++ (⟨#[114]⟩ : ByteArray)), (wrap64 (x4_1 + 1)), (by first | rfl | (simp; done) | (simp [*]; done)), (by first | rfl | (simp; done) | (simp [*]; done)), H', ⟨by have := HK1.out; omega⟩, ⟨by (with_reducible repeat (first | apply lN_ | apply lD_ | apply lA_)); exact BK180.out⟩, ⟨by (with_reducible repeat (first | apply lN_ | apply lD_ | apply lA_)); exact BK181.out⟩, ⟨bb2_ HB GE180 GE181⟩⟩
      ·rw [if_neg c8] at H
       exact absurd H (by simp)
     ·rw [if_neg c7] at H
      have c7b0 : ((bt a0_0 x4_1) == 108) = false := beq_eq_false_iff_ne.mpr c7
      have c7b1 : ((bt a0_0 x4_1) != 108) = true := bne_iff_ne.mpr c7
      by_cases c11 : (bt a0_0 x4_1) = 114
      ·rw [if_pos c11] at H
       have c11b0 : ((bt a0_0 x4_1) == 114) = true := beq_iff_eq.mpr c11
       have c11b1 : ((bt a0_0 x4_1) != 114) = false := bne_eq_false_iff_eq.mpr c11
       clear c11
       by_cases c12 : x3_1.size + 1 ≤ 9223372036854775807
       ·rw [if_pos c12] at H
        have c12b0 := eq_true c12
        have c12b1 : decide (x3_1.size + 1 ≤ 9223372036854775807) = true := decide_eq_true c12
        try have c12b2 : (9223372036854775807 < x3_1.size + 1) = False := eq_false (Nat.not_lt.2 c12)
        have H' := Aside0.mk H
        clear H
        have hnb13 := NB180_181.out
        have hnc13 := NB181_180.out
        have hcz14_0 := cz0_ BK180
        have hcz14_1 := cz1_ BK180
        have p6 : 0 ≤ (x4_1 : Int) := of_decide_eq_true as_
        have q6 : x4_1 < (a0_0.size : Int) := of_decide_eq_true as_
        have hx6 := bt_at a0_0 x4_1
        replace p6 := eq_true p6
        replace q6 := eq_true q6
        go_wp2
        go_roundg k1
        case measure => have := HK1.out; omega
        case rel => exact ⟨(x3_1 ++ (⟨#[108]⟩ : ByteArray)), (wrap64 (x4_1 + 1)), (by first | rfl | (simp; done) | (simp [*]; done)), (by first | rfl | (simp; done) | (simp [*]; done)), H', ⟨by have := HK1.out; omega⟩, ⟨by (with_reducible repeat (first | apply lN_ | apply lD_ | apply lA_)); exact BK180.out⟩, ⟨by (with_reducible repeat (first | apply lN_ | apply lD_ | apply lA_)); exact BK181.out⟩, ⟨bb2_ HB GE180 GE181⟩⟩
       ·rw [if_neg c12] at H
        exact absurd H (by simp)
      ·rw [if_neg c11] at H
       have c11b0 : ((bt a0_0 x4_1) == 114) = false := beq_eq_false_iff_ne.mpr c11
       have c11b1 : ((bt a0_0 x4_1) != 114) = true := bne_iff_ne.mpr c11
       have c15b0 := eq_true (of_decide_eq_true as_ : 0 ≤ x4_1)
       by_cases c16 : x4_1 ≤ (wrap64 (x4_1 + 1))
       ·rw [if_pos c16] at H
        have c16b0 := eq_true c16
        have c16b1 : decide (x4_1 ≤ (wrap64 (x4_1 + 1))) = true := decide_eq_true c16
        by_cases c17 : (wrap64 (x4_1 + 1)) ≤ (a0_0.size : Int)
        ·rw [if_pos c17] at H
         have c17b0 := eq_true c17
         have c17b1 : decide ((wrap64 (x4_1 + 1)) ≤ (a0_0.size : Int)) = true := decide_eq_true c17
         by_cases c18 : x3_1.size + (a0_0.extract (x4_1 : Int).toNat ((wrap64 (x4_1 + 1)) : Int).toNat).size ≤ 9223372036854775807
         ·rw [if_pos c18] at H
          have c18b0 := eq_true c18
          have c18b1 : decide (x3_1.size + (a0_0.extract (x4_1 : Int).toNat ((wrap64 (x4_1 + 1)) : Int).toNat).size ≤ 9223372036854775807) = true := decide_eq_true c18
          try have c18b2 : (9223372036854775807 < x3_1.size + (a0_0.extract (x4_1 : Int).toNat ((wrap64 (x4_1 + 1)) : Int).toNat).size) = False := eq_false (Nat.not_lt.2 c18)
          have H' := Aside0.mk H
          clear H
          have hnb19 := NB180_181.out
          have hnc19 := NB181_180.out
          have hcz20_0 := cz0_ BK180
          have hcz20_1 := cz1_ BK180
          have p6 : 0 ≤ (x4_1 : Int) := of_decide_eq_true as_
          have q6 : x4_1 < (a0_0.size : Int) := of_decide_eq_true as_
          have hx6 := bt_at a0_0 x4_1
          replace p6 := eq_true p6
          replace q6 := eq_true q6
          go_wp2
          go_roundg k1
          case measure => have := HK1.out; omega
          case rel => exact ⟨(x3_1 ++ (a0_0.extract (x4_1 : Int).toNat ((wrap64 (x4_1 + 1)) : Int).toNat)), (wrap64 (x4_1 + 1)), (by first | rfl | (simp; done) | (simp [*]; done)), (by first | rfl | (simp; done) | (simp [*]; done)), H', ⟨by have := HK1.out; omega⟩, ⟨by (with_reducible repeat (first | apply lN_ | apply lD_ | apply lA_)); exact BK180.out⟩, ⟨by (with_reducible repeat (first | apply lN_ | apply lD_ | apply lA_)); exact BK181.out⟩, ⟨bb2_ HB GE180 GE181⟩⟩
         ·rw [if_neg c18] at H
          exact absurd H (by simp)
        ·rw [if_neg c17] at H
         exact absurd H (by simp)
       ·rw [if_neg c16] at H
        exact absurd H (by simp)
    ·rw [if_neg c5] at H
     exact absurd H (by simp)
   ·rw [if_neg c4] at H
    have c4b0 : decide (x4_1 < (a0_0.size : Int)) = false := decide_eq_false c4
    clear c4
    simp only [Option.some.injEq, Prod.mk.injEq] at H
    obtain ⟨rfl, rfl⟩ := H
    have hnb21 := NB180_181.out
    have hnc21 := NB181_180.out
    have hcz22_0 := cz0_ BK180
    have hcz22_1 := cz1_ BK180
    have hcz23_0 := cz0_ BK181
    have hcz23_1 := cz1_ BK181
    have hfz23_0 := fz_ BK181 0
    have hfz23_1 := fz_ BK181 1
    go_wp2
    refine bodyPost_ret (results_cell_row rfl _ _ gb181 40 #[.string x3_1, .int .i64 a0_1] (0, 0) _ rfl (by (with_reducible repeat (first | apply lN_ | apply lD_ | apply lA_)); refine blk_put (cs := #[.string x3_1, .int .i64 0]) ?_ 1 _ rfl; (with_reducible repeat (first | apply lN_ | apply lD_ | apply lA_)); refine blk_put (cs := #[.string (⟨#[]⟩ : ByteArray), .int .i64 0]) ?_ 0 _ rfl; (with_reducible repeat (first | apply lN_ | apply lD_ | apply lA_)); exact BK181.out) Tryz.underlying40 rfl (by kernel_rfl)) rfl ?_
    exact ⟨ew_, bb2_ HB GE180 GE181⟩

end Go.Proofs.YtmbffgkejknfaaaGreatDoor.PA
