-- Written by a program of this session (wip/tools/myprint.py). Not trusted: Lean checks it.
import Derived.Test.YtndipmdabphgcaaPAx0
import Derived.Test.YtndipmdabphgcaaPAx12
namespace Go.Proofs.Ytndipmdabphgcaa.PA
open Go.RowKit Go.Proofs.YtndipmdabphgcaaW.PrintWords Go.Proofs.YtndipmdabphgcaaW.PrintLast Go.Proofs.YtndipmdabphgcaaW.PrintMore
attribute [local go_sem] max2_int min2_int max_two min_two max_three min_three max_four min_four   -- for this text's walks alone
set_option linter.unusedVariables false
set_option linter.unusedSimpArgs false

/-! ### impl_moveOf: function 38 -/
/-- The first r-th part of a text. -/
def moCut (s : ByteArray) (r : Nat) : ByteArray := s.extract 0 (s.size / r)
def moRep (s : ByteArray) (r : Nat) : ByteArray := ⟨(Lib.repeatL (moCut s r).data.toList r).toArray⟩
/-- Is the text its r-th part r times, and this of at most six letters? -/
def moHit (s : ByteArray) (r : Nat) : Bool := decide ((moCut s r).size ≤ 6) && ((moRep s r).toList == s.toList)
def moV (s : ByteArray) : ByteArray × Int × Bool :=
  if s.toList = [] then (⟨#[]⟩, 1, true) else if moHit s 3 = true then (moCut s 3, 3, true) else if moHit s 2 = true then (moCut s 2, 2, true) else if moHit s 1 = true then (moCut s 1, 1, true) else (⟨#[]⟩, 0, false)
def MoRel (a0 : ByteArray) (x : Nat) : Prop := x ≤ 3 ∧ ∀ r, x < r → r ≤ 3 → moHit a0 r = false
theorem moRel_step {a0 : ByteArray} {x : Nat} (h : MoRel a0 (x + 1)) (hm : moHit a0 (x + 1) = false) : MoRel a0 x := by
  refine ⟨by have := h.1; omega, fun r hr hr3 => ?_⟩
  by_cases e : r = x + 1
  · subst e; exact hm
  · exact h.2 r (by omega) hr3
theorem moCut_size (a0 : ByteArray) (r : Nat) : (moCut a0 r).size = min (a0.size / r) a0.size := by
  unfold moCut; rw [ByteArray.size_extract, Nat.sub_zero]
theorem moCut_one (a0 : ByteArray) : moCut a0 1 = a0 := by
  unfold moCut; rw [Nat.div_one]; exact ByteArray.extract_zero_size
theorem mo_parts (a0 : ByteArray) (r : Nat) (hr : 1 ≤ r ∧ r ≤ 3) (hs : a0.size ≤ 46000000000000) : ∃ tt, tt = moRep a0 r ∧ strings_Repeat.f (a0.extract 0 (a0.size / r)) (r : Int) = some tt ∧ moHit a0 r = (decide ((moCut a0 r).size ≤ 6) && (tt.toList == a0.toList)) := by
  refine ⟨_, rfl, ?_, rfl⟩
  unfold strings_Repeat.f
  have h1 := moCut_size a0 r
  unfold moCut at h1
  have h2 : (a0.extract 0 (a0.size / r)).size * ((r : Nat) : Int).toNat ≤ 140737488355328 := by
    rw [h1, Int.toNat_natCast]
    exact Nat.le_trans (Nat.mul_le_mul (Nat.min_le_right _ _) hr.2) (by omega)
  rw [if_pos ⟨by omega, by omega, h2⟩]
  rfl
theorem moV_hit {a0 : ByteArray} {x : Nat} (hc : ¬ a0.toList = []) (h : MoRel a0 x) (h1 : 1 ≤ x) (hh : moHit a0 x = true) : moV a0 = (moCut a0 x, (x : Int), true) := by
  unfold moV
  rw [if_neg hc]
  have := h.1
  have e : x = 3 ∨ x = 2 ∨ x = 1 := by omega
  rcases e with rfl | rfl | rfl
  · rw [if_pos hh]; rfl
  · rw [if_neg (by rw [h.2 3 (by omega) (by omega)]; decide), if_pos hh]; rfl
  · rw [if_neg (by rw [h.2 3 (by omega) (by omega)]; decide), if_neg (by rw [h.2 2 (by omega) (by omega)]; decide), if_pos hh]; rfl
theorem moV_none {a0 : ByteArray} (hc : ¬ a0.toList = []) (h : MoRel a0 0) : moV a0 = (⟨#[]⟩, 0, false) := by
  unfold moV
  rw [if_neg hc, if_neg (by rw [h.2 3 (by omega) (by omega)]; decide), if_neg (by rw [h.2 2 (by omega) (by omega)]; decide), if_neg (by rw [h.2 1 (by omega) (by omega)]; decide)]
set_option maxHeartbeats 1600000 in
set_option maxRecDepth 100000 in
theorem moveOf_walk (a0 : ByteArray) (w : World) (hs : a0.size ≤ 46000000000000) (r1 : ByteArray) (r2 : Int) (r3 : Bool) (hr : moV a0 = (r1, r2, r3)) :
    Calls Try.prog 38 #[.string a0] w fun e w' => e = .returned (.tuple #[.agg #[.string r1, .int .i64 r2], .bool r3]) ∧ Below w.heap.size w w' := by
  have huM := Try.underlying33
  have HB := Aside0.mk (Below.refl w.heap.size w)
  by_cases c2 : a0.toList = ([] : List UInt8)
  · have c2b0 : (a0.toList == ([] : List UInt8)) = true := beq_iff_eq.mpr c2
    have c2b1 : (a0.toList != ([] : List UInt8)) = false := bne_eq_false_iff_eq.mpr c2
    unfold moV at hr
    rw [if_pos c2] at hr
    simp only [Prod.mk.injEq] at hr
    obtain ⟨rfl, rfl, rfl⟩ := hr
    clear c2 hs
    go_enter Try.func38, Try.ntmps38
    go_wp2_with (first | ((with_reducible refine gate_dst (N := 2) rfl ?_); refine box_event ?hg (N := 2) ?hd (cs := #[.string (⟨#[]⟩ : ByteArray), .int .i64 0]) (t := 33) ?hr ?_; (case hd => rfl); (case hg => rfl); (case hr => first | (go_simp; done) | (go_simp; rfl)); intro gb hg wq hbox hb; have n0_ := Aside0.mk (below_step HB.out hb); have n1_ := Aside0.mk (hbox); have n2_ := Aside0.mk ((by rw [hg]; exact (below_size HB.out) : w.heap.size ≤ gb)); clear HB; have HB := n0_; have BK := n1_; have GE := n2_; clear n0_ n1_ n2_; clear hb hbox hg; have hz0 : wq.cell? ⟨gb, 0, none⟩ = some (.string (⟨#[]⟩ : ByteArray)) := (blk_cell BK.out 0).trans rfl; have hz1 : wq.cell? ⟨gb, 1, none⟩ = some (.int .i64 0) := (blk_cell BK.out 1).trans rfl; have hf0 := blk_frozen BK.out 0; have hf1 := blk_frozen BK.out 1))
    refine bodyPost_ret (results_ct rfl _ _ gb 33 #[.string (⟨#[]⟩ : ByteArray), .int .i64 1] (0, 0) _ rfl (by (with_reducible repeat (first | refine blk_drewN ?_ _ | refine blk_drew ?_ | refine blk_alloc ?_ _)); refine blk_put (cs := #[.string (⟨#[]⟩ : ByteArray), .int .i64 0]) ?_ 1 _ rfl; (with_reducible repeat (first | refine blk_drewN ?_ _ | refine blk_drew ?_ | refine blk_alloc ?_ _)); refine blk_put (cs := #[.string (⟨#[]⟩ : ByteArray), .int .i64 0]) ?_ 0 _ rfl; (with_reducible repeat (first | refine blk_drewN ?_ _ | refine blk_drew ?_ | refine blk_alloc ?_ _)); exact BK.out) Try.underlying33 rfl (by kernel_rfl)) rfl ?_
    exact ⟨by first | rfl | (simp; done) | (simp [moCut]; done) | (simp [moCut_one]; done), by repeat (first | (with_reducible first | exact HB.out | apply below_alloc | apply pw_below_drewN | apply below_drew1 | refine below_set ?_ GE.out) | exact HB.out)⟩
  · have c2b0 : (a0.toList == ([] : List UInt8)) = false := beq_eq_false_iff_ne.mpr c2
    have c2b1 : (a0.toList != ([] : List UInt8)) = true := bne_iff_ne.mpr c2
    have hS := Aside0.mk hs
    have hR := Aside0.mk hr
    have hC := Aside0.mk c2
    clear hr c2 hs
    go_enter Try.func38, Try.ntmps38
    go_wp2_with (first | ((with_reducible refine gate_dst (N := 2) rfl ?_); refine box_event ?hg (N := 2) ?hd (cs := #[.string (⟨#[]⟩ : ByteArray), .int .i64 0]) (t := 33) ?hr ?_; (case hd => rfl); (case hg => rfl); (case hr => first | (go_simp; done) | (go_simp; rfl)); intro gb hg wq hbox hb; have n0_ := Aside0.mk (below_step HB.out hb); have n1_ := Aside0.mk (hbox); have n2_ := Aside0.mk ((by rw [hg]; exact (below_size HB.out) : w.heap.size ≤ gb)); clear HB; have HB := n0_; have BK := n1_; have GE := n2_; clear n0_ n1_ n2_; clear hb hbox hg))
    go_loopg [4] 3 (fun kq v4 w' => ∃ x : Nat, v4 = .int .i64 (x : Int) ∧ Aside0 (kq = x) ∧ Aside0 (MoRel a0 x) ∧ Aside0 (w'.heap[gb]? = some (.cells #[.string ⟨#[]⟩, .int .i64 0] 33 (0, 0))) ∧ Aside0 (Below w.heap.size w w'))
    case atStart => exact ⟨3, rfl, ⟨rfl⟩, ⟨⟨by omega, fun r h1 h2 => by omega⟩⟩, ⟨by (with_reducible repeat (first | refine blk_drewN ?_ _ | refine blk_drew ?_ | refine blk_alloc ?_ _)); exact BK.out⟩, ⟨by repeat (first | (with_reducible first | exact HB.out | apply below_alloc | apply pw_below_drewN | apply below_drew1) | exact HB.out)⟩⟩
    case round =>
      clear c2b0 c2b1
      obtain ⟨x, rfl, HK, HM, BK, HB⟩ := hrel
      have hx : x = 3 ∨ x = 2 ∨ x = 1 ∨ x = 0 := by have := HM.out.1; omega
      rcases hx with rfl | rfl | rfl | rfl
      · have hsz : (a0.size : Int) ≤ 46000000000000 := by have := hS.out; omega
        have q0 : (0 : Int) ≤ (a0.size : Int) / 3 := by omega
        have q1 : (a0.size : Int) / 3 ≤ (a0.size : Int) := by omega
        obtain ⟨tt, ht, hT, hhit⟩ := mo_parts a0 3 (by omega) hS.out
        have HT := Aside0.mk (show strings_Repeat.f (a0.extract 0 (a0.size / 3)) (3 : Int) = some tt by have h_ := hT; (try rw [show a0.extract 0 (a0.size / 1) = a0 from moCut_one a0] at h_); exact h_)
        have hsize : (moCut a0 3).size = min (a0.size / 3) a0.size := by first | exact moCut_size a0 3 | rw [moCut_one]
        clear hT
        by_cases h6 : min (a0.size / 3) a0.size ≤ 6
        · by_cases he : (tt.toList == a0.toList) = true
          · have hv : moV a0 = (moCut a0 3, 3, true) := moV_hit hC.out HM.out (by omega) (by rw [hhit, hsize, he, decide_eq_true h6]; rfl)
            obtain ⟨rfl, rfl, rfl⟩ : moCut a0 3 = r1 ∧ ((3 : Nat) : Int) = r2 ∧ true = r3 := by have := hv.symm.trans hR.out; simpa using this
            clear hv hhit hsize ht
            go_wp2_with (go_at_call 54; (with_reducible refine (strings_Repeat.calls (a0.extract 0 (a0.size / 3)) 3 tt _ HT.out).mono ?_); rintro e wq ⟨rfl, hb⟩; have n0_ := Aside0.mk (blk_below (g := gb) (o := .cells #[.string (⟨#[]⟩ : ByteArray), .int .i64 0] 33 (0, 0)) (by (with_reducible repeat (first | refine blk_drewN ?_ _ | refine blk_drew ?_ | refine blk_alloc ?_ _)); exact BK.out) hb); have n1_ := Aside0.mk (below_step (by repeat (first | (with_reducible first | exact HB.out | apply below_alloc | apply pw_below_drewN | apply below_drew1) | exact HB.out)) hb); clear BK; clear HB; have BK := n0_; have HB := n1_; clear n0_ n1_ hb; have hz0 : wq.cell? ⟨gb, 0, none⟩ = some (.string (⟨#[]⟩ : ByteArray)) := (blk_cell BK.out 0).trans rfl; have hz1 : wq.cell? ⟨gb, 1, none⟩ = some (.int .i64 0) := (blk_cell BK.out 1).trans rfl; have hf0 := blk_frozen BK.out 0; have hf1 := blk_frozen BK.out 1)
            refine bodyPost_ret (results_ct rfl _ _ gb 33 #[.string (a0.extract 0 (a0.size / 3)), .int .i64 3] (0, 0) _ rfl (by (with_reducible repeat (first | refine blk_drewN ?_ _ | refine blk_drew ?_ | refine blk_alloc ?_ _)); refine blk_put (cs := #[.string (a0.extract 0 (a0.size / 3)), .int .i64 0]) ?_ 1 _ rfl; (with_reducible repeat (first | refine blk_drewN ?_ _ | refine blk_drew ?_ | refine blk_alloc ?_ _)); refine blk_put (cs := #[.string (⟨#[]⟩ : ByteArray), .int .i64 0]) ?_ 0 _ rfl; (with_reducible repeat (first | refine blk_drewN ?_ _ | refine blk_drew ?_ | refine blk_alloc ?_ _)); exact BK.out) Try.underlying33 rfl (by kernel_rfl)) rfl ?_
            exact ⟨by first | rfl | (simp; done) | (simp [moCut]; done) | (simp [moCut_one]; done), by repeat (first | (with_reducible first | exact HB.out | apply below_alloc | apply pw_below_drewN | apply below_drew1 | refine below_set ?_ GE.out) | exact HB.out)⟩
          · have he : (tt.toList == a0.toList) = false := by simpa using he
            have hmiss : moHit a0 3 = false := by rw [hhit, he, Bool.and_false]
            clear hhit hsize ht
            have hmiss := Aside0.mk hmiss
            go_wp2_with (go_at_call 54; (with_reducible refine (strings_Repeat.calls (a0.extract 0 (a0.size / 3)) 3 tt _ HT.out).mono ?_); rintro e wq ⟨rfl, hb⟩; have n0_ := Aside0.mk (blk_below (g := gb) (o := .cells #[.string (⟨#[]⟩ : ByteArray), .int .i64 0] 33 (0, 0)) (by (with_reducible repeat (first | refine blk_drewN ?_ _ | refine blk_drew ?_ | refine blk_alloc ?_ _)); exact BK.out) hb); have n1_ := Aside0.mk (below_step (by repeat (first | (with_reducible first | exact HB.out | apply below_alloc | apply pw_below_drewN | apply below_drew1) | exact HB.out)) hb); clear BK; clear HB; have BK := n0_; have HB := n1_; clear n0_ n1_ hb; have hz0 : wq.cell? ⟨gb, 0, none⟩ = some (.string (⟨#[]⟩ : ByteArray)) := (blk_cell BK.out 0).trans rfl; have hz1 : wq.cell? ⟨gb, 1, none⟩ = some (.int .i64 0) := (blk_cell BK.out 1).trans rfl; have hf0 := blk_frozen BK.out 0; have hf1 := blk_frozen BK.out 1)
            have hmiss := hmiss.out
            go_roundg 2
            case measure => have := HK.out; omega
            case rel => exact ⟨2, by first | rfl | (simp; done), ⟨rfl⟩, ⟨moRel_step HM.out hmiss⟩, ⟨by (with_reducible repeat (first | refine blk_drewN ?_ _ | refine blk_drew ?_ | refine blk_alloc ?_ _)); exact BK.out⟩, ⟨by repeat (first | (with_reducible first | exact HB.out | apply below_alloc | apply pw_below_drewN | apply below_drew1) | exact HB.out)⟩⟩
        · have hmiss : moHit a0 3 = false := by rw [hhit, hsize, decide_eq_false h6, Bool.false_and]
          clear hhit hsize ht
          have hmiss := Aside0.mk hmiss
          go_wp2
          have hmiss := hmiss.out
          go_roundg 2
          case measure => have := HK.out; omega
          case rel => exact ⟨2, by first | rfl | (simp; done), ⟨rfl⟩, ⟨moRel_step HM.out hmiss⟩, ⟨by (with_reducible repeat (first | refine blk_drewN ?_ _ | refine blk_drew ?_ | refine blk_alloc ?_ _)); exact BK.out⟩, ⟨by repeat (first | (with_reducible first | exact HB.out | apply below_alloc | apply pw_below_drewN | apply below_drew1) | exact HB.out)⟩⟩
      · have hsz : (a0.size : Int) ≤ 46000000000000 := by have := hS.out; omega
        have q0 : (0 : Int) ≤ (a0.size : Int) / 2 := by omega
        have q1 : (a0.size : Int) / 2 ≤ (a0.size : Int) := by omega
        obtain ⟨tt, ht, hT, hhit⟩ := mo_parts a0 2 (by omega) hS.out
        have HT := Aside0.mk (show strings_Repeat.f (a0.extract 0 (a0.size / 2)) (2 : Int) = some tt by have h_ := hT; (try rw [show a0.extract 0 (a0.size / 1) = a0 from moCut_one a0] at h_); exact h_)
        have hsize : (moCut a0 2).size = min (a0.size / 2) a0.size := by first | exact moCut_size a0 2 | rw [moCut_one]
        clear hT
        by_cases h6 : min (a0.size / 2) a0.size ≤ 6
        · by_cases he : (tt.toList == a0.toList) = true
          · have hv : moV a0 = (moCut a0 2, 2, true) := moV_hit hC.out HM.out (by omega) (by rw [hhit, hsize, he, decide_eq_true h6]; rfl)
            obtain ⟨rfl, rfl, rfl⟩ : moCut a0 2 = r1 ∧ ((2 : Nat) : Int) = r2 ∧ true = r3 := by have := hv.symm.trans hR.out; simpa using this
            clear hv hhit hsize ht
            go_wp2_with (go_at_call 54; (with_reducible refine (strings_Repeat.calls (a0.extract 0 (a0.size / 2)) 2 tt _ HT.out).mono ?_); rintro e wq ⟨rfl, hb⟩; have n0_ := Aside0.mk (blk_below (g := gb) (o := .cells #[.string (⟨#[]⟩ : ByteArray), .int .i64 0] 33 (0, 0)) (by (with_reducible repeat (first | refine blk_drewN ?_ _ | refine blk_drew ?_ | refine blk_alloc ?_ _)); exact BK.out) hb); have n1_ := Aside0.mk (below_step (by repeat (first | (with_reducible first | exact HB.out | apply below_alloc | apply pw_below_drewN | apply below_drew1) | exact HB.out)) hb); clear BK; clear HB; have BK := n0_; have HB := n1_; clear n0_ n1_ hb; have hz0 : wq.cell? ⟨gb, 0, none⟩ = some (.string (⟨#[]⟩ : ByteArray)) := (blk_cell BK.out 0).trans rfl; have hz1 : wq.cell? ⟨gb, 1, none⟩ = some (.int .i64 0) := (blk_cell BK.out 1).trans rfl; have hf0 := blk_frozen BK.out 0; have hf1 := blk_frozen BK.out 1)
            refine bodyPost_ret (results_ct rfl _ _ gb 33 #[.string (a0.extract 0 (a0.size / 2)), .int .i64 2] (0, 0) _ rfl (by (with_reducible repeat (first | refine blk_drewN ?_ _ | refine blk_drew ?_ | refine blk_alloc ?_ _)); refine blk_put (cs := #[.string (a0.extract 0 (a0.size / 2)), .int .i64 0]) ?_ 1 _ rfl; (with_reducible repeat (first | refine blk_drewN ?_ _ | refine blk_drew ?_ | refine blk_alloc ?_ _)); refine blk_put (cs := #[.string (⟨#[]⟩ : ByteArray), .int .i64 0]) ?_ 0 _ rfl; (with_reducible repeat (first | refine blk_drewN ?_ _ | refine blk_drew ?_ | refine blk_alloc ?_ _)); exact BK.out) Try.underlying33 rfl (by kernel_rfl)) rfl ?_
            exact ⟨by first | rfl | (simp; done) | (simp [moCut]; done) | (simp [moCut_one]; done), by repeat (first | (with_reducible first | exact HB.out | apply below_alloc | apply pw_below_drewN | apply below_drew1 | refine below_set ?_ GE.out) | exact HB.out)⟩
          · have he : (tt.toList == a0.toList) = false := by simpa using he
            have hmiss : moHit a0 2 = false := by rw [hhit, he, Bool.and_false]
            clear hhit hsize ht
            have hmiss := Aside0.mk hmiss
            go_wp2_with (go_at_call 54; (with_reducible refine (strings_Repeat.calls (a0.extract 0 (a0.size / 2)) 2 tt _ HT.out).mono ?_); rintro e wq ⟨rfl, hb⟩; have n0_ := Aside0.mk (blk_below (g := gb) (o := .cells #[.string (⟨#[]⟩ : ByteArray), .int .i64 0] 33 (0, 0)) (by (with_reducible repeat (first | refine blk_drewN ?_ _ | refine blk_drew ?_ | refine blk_alloc ?_ _)); exact BK.out) hb); have n1_ := Aside0.mk (below_step (by repeat (first | (with_reducible first | exact HB.out | apply below_alloc | apply pw_below_drewN | apply below_drew1) | exact HB.out)) hb); clear BK; clear HB; have BK := n0_; have HB := n1_; clear n0_ n1_ hb; have hz0 : wq.cell? ⟨gb, 0, none⟩ = some (.string (⟨#[]⟩ : ByteArray)) := (blk_cell BK.out 0).trans rfl; have hz1 : wq.cell? ⟨gb, 1, none⟩ = some (.int .i64 0) := (blk_cell BK.out 1).trans rfl; have hf0 := blk_frozen BK.out 0; have hf1 := blk_frozen BK.out 1)
            have hmiss := hmiss.out
            go_roundg 1
            case measure => have := HK.out; omega
            case rel => exact ⟨1, by first | rfl | (simp; done), ⟨rfl⟩, ⟨moRel_step HM.out hmiss⟩, ⟨by (with_reducible repeat (first | refine blk_drewN ?_ _ | refine blk_drew ?_ | refine blk_alloc ?_ _)); exact BK.out⟩, ⟨by repeat (first | (with_reducible first | exact HB.out | apply below_alloc | apply pw_below_drewN | apply below_drew1) | exact HB.out)⟩⟩
        · have hmiss : moHit a0 2 = false := by rw [hhit, hsize, decide_eq_false h6, Bool.false_and]
          clear hhit hsize ht
          have hmiss := Aside0.mk hmiss
          go_wp2
          have hmiss := hmiss.out
          go_roundg 1
          case measure => have := HK.out; omega
          case rel => exact ⟨1, by first | rfl | (simp; done), ⟨rfl⟩, ⟨moRel_step HM.out hmiss⟩, ⟨by (with_reducible repeat (first | refine blk_drewN ?_ _ | refine blk_drew ?_ | refine blk_alloc ?_ _)); exact BK.out⟩, ⟨by repeat (first | (with_reducible first | exact HB.out | apply below_alloc | apply pw_below_drewN | apply below_drew1) | exact HB.out)⟩⟩
      · have hsz : (a0.size : Int) ≤ 46000000000000 := by have := hS.out; omega
        have q0 : (0 : Int) ≤ (a0.size : Int) / 1 := by omega
        have q1 : (a0.size : Int) / 1 ≤ (a0.size : Int) := by omega
        obtain ⟨tt, ht, hT, hhit⟩ := mo_parts a0 1 (by omega) hS.out
        have HT := Aside0.mk (show strings_Repeat.f a0 (1 : Int) = some tt by have h_ := hT; (try rw [show a0.extract 0 (a0.size / 1) = a0 from moCut_one a0] at h_); exact h_)
        have hsize : (moCut a0 1).size = a0.size := by first | exact moCut_size a0 1 | rw [moCut_one]
        clear hT
        by_cases h6 : a0.size ≤ 6
        · by_cases he : (tt.toList == a0.toList) = true
          · have hv : moV a0 = (moCut a0 1, 1, true) := moV_hit hC.out HM.out (by omega) (by rw [hhit, hsize, he, decide_eq_true h6]; rfl)
            obtain ⟨rfl, rfl, rfl⟩ : moCut a0 1 = r1 ∧ ((1 : Nat) : Int) = r2 ∧ true = r3 := by have := hv.symm.trans hR.out; simpa using this
            clear hv hhit hsize ht
            go_wp2_with (go_at_call 54; (with_reducible refine (strings_Repeat.calls a0 1 tt _ HT.out).mono ?_); rintro e wq ⟨rfl, hb⟩; have n0_ := Aside0.mk (blk_below (g := gb) (o := .cells #[.string (⟨#[]⟩ : ByteArray), .int .i64 0] 33 (0, 0)) (by (with_reducible repeat (first | refine blk_drewN ?_ _ | refine blk_drew ?_ | refine blk_alloc ?_ _)); exact BK.out) hb); have n1_ := Aside0.mk (below_step (by repeat (first | (with_reducible first | exact HB.out | apply below_alloc | apply pw_below_drewN | apply below_drew1) | exact HB.out)) hb); clear BK; clear HB; have BK := n0_; have HB := n1_; clear n0_ n1_ hb; have hz0 : wq.cell? ⟨gb, 0, none⟩ = some (.string (⟨#[]⟩ : ByteArray)) := (blk_cell BK.out 0).trans rfl; have hz1 : wq.cell? ⟨gb, 1, none⟩ = some (.int .i64 0) := (blk_cell BK.out 1).trans rfl; have hf0 := blk_frozen BK.out 0; have hf1 := blk_frozen BK.out 1)
            refine bodyPost_ret (results_ct rfl _ _ gb 33 #[.string a0, .int .i64 1] (0, 0) _ rfl (by (with_reducible repeat (first | refine blk_drewN ?_ _ | refine blk_drew ?_ | refine blk_alloc ?_ _)); refine blk_put (cs := #[.string a0, .int .i64 0]) ?_ 1 _ rfl; (with_reducible repeat (first | refine blk_drewN ?_ _ | refine blk_drew ?_ | refine blk_alloc ?_ _)); refine blk_put (cs := #[.string (⟨#[]⟩ : ByteArray), .int .i64 0]) ?_ 0 _ rfl; (with_reducible repeat (first | refine blk_drewN ?_ _ | refine blk_drew ?_ | refine blk_alloc ?_ _)); exact BK.out) Try.underlying33 rfl (by kernel_rfl)) rfl ?_
            exact ⟨by first | rfl | (simp; done) | (simp [moCut]; done) | (simp [moCut_one]; done), by repeat (first | (with_reducible first | exact HB.out | apply below_alloc | apply pw_below_drewN | apply below_drew1 | refine below_set ?_ GE.out) | exact HB.out)⟩
          · have he : (tt.toList == a0.toList) = false := by simpa using he
            have hmiss : moHit a0 1 = false := by rw [hhit, he, Bool.and_false]
            clear hhit hsize ht
            have hmiss := Aside0.mk hmiss
            go_wp2_with (go_at_call 54; (with_reducible refine (strings_Repeat.calls a0 1 tt _ HT.out).mono ?_); rintro e wq ⟨rfl, hb⟩; have n0_ := Aside0.mk (blk_below (g := gb) (o := .cells #[.string (⟨#[]⟩ : ByteArray), .int .i64 0] 33 (0, 0)) (by (with_reducible repeat (first | refine blk_drewN ?_ _ | refine blk_drew ?_ | refine blk_alloc ?_ _)); exact BK.out) hb); have n1_ := Aside0.mk (below_step (by repeat (first | (with_reducible first | exact HB.out | apply below_alloc | apply pw_below_drewN | apply below_drew1) | exact HB.out)) hb); clear BK; clear HB; have BK := n0_; have HB := n1_; clear n0_ n1_ hb; have hz0 : wq.cell? ⟨gb, 0, none⟩ = some (.string (⟨#[]⟩ : ByteArray)) := (blk_cell BK.out 0).trans rfl; have hz1 : wq.cell? ⟨gb, 1, none⟩ = some (.int .i64 0) := (blk_cell BK.out 1).trans rfl; have hf0 := blk_frozen BK.out 0; have hf1 := blk_frozen BK.out 1)
            have hmiss := hmiss.out
            go_roundg 0
            case measure => have := HK.out; omega
            case rel => exact ⟨0, by first | rfl | (simp; done), ⟨rfl⟩, ⟨moRel_step HM.out hmiss⟩, ⟨by (with_reducible repeat (first | refine blk_drewN ?_ _ | refine blk_drew ?_ | refine blk_alloc ?_ _)); exact BK.out⟩, ⟨by repeat (first | (with_reducible first | exact HB.out | apply below_alloc | apply pw_below_drewN | apply below_drew1) | exact HB.out)⟩⟩
        · have hmiss : moHit a0 1 = false := by rw [hhit, hsize, decide_eq_false h6, Bool.false_and]
          clear hhit hsize ht
          have hmiss := Aside0.mk hmiss
          go_wp2
          have hmiss := hmiss.out
          go_roundg 0
          case measure => have := HK.out; omega
          case rel => exact ⟨0, by first | rfl | (simp; done), ⟨rfl⟩, ⟨moRel_step HM.out hmiss⟩, ⟨by (with_reducible repeat (first | refine blk_drewN ?_ _ | refine blk_drew ?_ | refine blk_alloc ?_ _)); exact BK.out⟩, ⟨by repeat (first | (with_reducible first | exact HB.out | apply below_alloc | apply pw_below_drewN | apply below_drew1) | exact HB.out)⟩⟩
      · obtain ⟨rfl, rfl, rfl⟩ : (⟨#[]⟩ : ByteArray) = r1 ∧ (0 : Int) = r2 ∧ false = r3 := by have := (moV_none hC.out HM.out).symm.trans hR.out; simpa using this
        have hz0 : wr.cell? ⟨gb, 0, none⟩ = some (.string (⟨#[]⟩ : ByteArray)) := (blk_cell BK.out 0).trans rfl; have hz1 : wr.cell? ⟨gb, 1, none⟩ = some (.int .i64 0) := (blk_cell BK.out 1).trans rfl; have hf0 := blk_frozen BK.out 0; have hf1 := blk_frozen BK.out 1
        go_wp2
        refine bodyPost_ret (results_ct rfl _ _ gb 33 #[.string (⟨#[]⟩ : ByteArray), .int .i64 0] (0, 0) _ rfl (by (with_reducible repeat (first | refine blk_drewN ?_ _ | refine blk_drew ?_ | refine blk_alloc ?_ _)); refine blk_put (cs := #[.string (⟨#[]⟩ : ByteArray), .int .i64 0]) ?_ 1 _ rfl; (with_reducible repeat (first | refine blk_drewN ?_ _ | refine blk_drew ?_ | refine blk_alloc ?_ _)); refine blk_put (cs := #[.string (⟨#[]⟩ : ByteArray), .int .i64 0]) ?_ 0 _ rfl; (with_reducible repeat (first | refine blk_drewN ?_ _ | refine blk_drew ?_ | refine blk_alloc ?_ _)); exact BK.out) Try.underlying33 rfl (by kernel_rfl)) rfl ?_
        exact ⟨by first | rfl | (simp; done) | (simp [moCut]; done) | (simp [moCut_one]; done), by repeat (first | (with_reducible first | exact HB.out | apply below_alloc | apply pw_below_drewN | apply below_drew1 | refine below_set ?_ GE.out) | exact HB.out)⟩
def impl_moveOf.f (a0 : ByteArray) : Option (ByteArray × Int × Bool) := if a0.size ≤ 46000000000000 then some (moV a0) else none
theorem impl_moveOf.calls (a0 : ByteArray) (r1 : ByteArray) (r2 : Int) (r3 : Bool) (w : World) (h : impl_moveOf.f a0 = some (r1, r2, r3)) :
    Calls Try.prog 38 #[.string a0] w fun e w' => e = .returned (.tuple #[.agg #[.string r1, .int .i64 r2], .bool r3]) ∧ Below w.heap.size w w' := by
  unfold impl_moveOf.f at h
  split at h
  · rename_i hc
    exact moveOf_walk a0 w hc r1 r2 r3 (Option.some.inj h)
  · exact absurd h (by simp)

end Go.Proofs.Ytndipmdabphgcaa.PA
