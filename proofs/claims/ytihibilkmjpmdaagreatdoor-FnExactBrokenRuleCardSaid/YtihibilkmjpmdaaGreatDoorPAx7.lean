-- Written by a program of this session (wip/tools/myprint.py). Not trusted: Lean checks it.
import Derived.Test.YtihibilkmjpmdaaGreatDoorPAx0
import Derived.Test.YtihibilkmjpmdaaGreatDoorPAx4
import Derived.Test.YtihibilkmjpmdaaGreatDoorPAx6
namespace Go.Proofs.YtihibilkmjpmdaaGreatDoor.PA
open Go.RowKit Go.Proofs.YtihibilkmjpmdaaGreatDoorW.PrintWords Go.Proofs.YtihibilkmjpmdaaGreatDoorW.PrintLast Go.Proofs.YtihibilkmjpmdaaGreatDoorW.PrintMore
attribute [local go_sem] max2_int min2_int max_two min_two max_three min_three max_four min_four   -- for this text's walks alone
set_option linter.unusedVariables false
set_option linter.unusedSimpArgs false

/-! ### spec_siPlain: function 48 -/
def spec_siPlain.l0 : Nat → List (S35) → List ByteArray → Int → Int → Option ((List (S35)))
 | 0, _, _, _, _ => none
 | k + 1, x1, x6, x7, x8 => if x8 < x7 then (if 0 ≤ x8 then (if x8 < (x6.length : Int) then ((spec_shParse.f k (rdOf ByteArray.empty x6 x8)).bind fun bt163 => (if x1.length < 2932031007402 then (spec_siPlain.l0 k (x1 ++ [(⟨bt163.1, bt163.2.1, bt163.2.2.1, bt163.2.2.2.1, bt163.2.2.2.2.1, bt163.2.2.2.2.2.1⟩ : S35)]) x6 x7 (wrap64 (x8 + 1))) else (none))) else (none)) else (none)) else (some x1)
def spec_siPlain.f (k : Nat)  : Option ((List (S35))) := (some (([(⟨#[48, 48, 48, 48, 48]⟩ : ByteArray), (⟨#[48, 48, 48, 48, 48, 115]⟩ : ByteArray), (⟨#[50, 50, 50, 50, 50]⟩ : ByteArray), (⟨#[49, 48, 48, 48, 48]⟩ : ByteArray), (⟨#[49, 48, 50, 50, 50]⟩ : ByteArray), (⟨#[48, 48, 50, 50, 50]⟩ : ByteArray)] : List ByteArray) : List ByteArray)).bind fun y159 => (spec_siPlain.l0 k ([] : List (S35)) y159 (y159.length : Int) 0)
theorem spec_siPlain.mono_l : ∀ k, (∀ y0 y1 y2 y3, LeO (spec_siPlain.l0 k y0 y1 y2 y3) (spec_siPlain.l0 (k + 1) y0 y1 y2 y3))
 | 0 => fun _ _ _ _ r h => by simp [spec_siPlain.l0] at h
 | k + 1 => by
  have ih0 := spec_siPlain.mono_l k
  ·intro y0 y1 y2 y3
   unfold spec_siPlain.l0
   repeat' first
   | (with_reducible exact ih0 _ _ _ _)
   | (with_reducible exact spec_shParse.mono _ _)
   | (with_reducible exact LeO.refl _)
   | (with_reducible exact LeO.none _)
   | (with_reducible refine LeO.ite ?_ ?_)
   | (with_reducible refine LeO.bind ?_ (fun _ => ?_))
   | exact ih0 _ _ _ _
   | exact LeO.none _
   | refine LeO.ite ?_ ?_
   | refine LeO.bind ?_ (fun _ => ?_)
theorem spec_siPlain.mono : ∀ k, LeO (spec_siPlain.f k ) (spec_siPlain.f (k + 1) ) := by
 intro  k
 have ih0 := spec_siPlain.mono_l k
 unfold spec_siPlain.f
 repeat' first
   | (with_reducible exact ih0 _ _ _ _)
   | (with_reducible exact spec_shParse.mono _ _)
   | (with_reducible exact LeO.refl _)
   | (with_reducible exact LeO.none _)
   | (with_reducible refine LeO.ite ?_ ?_)
   | (with_reducible refine LeO.bind ?_ (fun _ => ?_))
   | exact ih0 _ _ _ _
   | exact LeO.none _
   | refine LeO.ite ?_ ?_
   | refine LeO.bind ?_ (fun _ => ?_)
set_option maxHeartbeats 8000000 in
set_option maxRecDepth 100000 in
theorem spec_siPlain.calls (k : Nat)  (r : List (S35)) (w : World) (h : spec_siPlain.f k  = some r) :
  Calls Tryz.prog 48 #[] w fun e w' => ∃ v0_ : Value, e = .returned (v0_) ∧ Kd.R k35 35 w' w.heap.size (fun _ => True) v0_ r ∧ Below w.heap.size w w' := by
 have hu35 := Tryz.underlying35
 have HB := Aside0.mk (Below.refl w.heap.size w)
 have H : ((some (([(⟨#[48, 48, 48, 48, 48]⟩ : ByteArray), (⟨#[48, 48, 48, 48, 48, 115]⟩ : ByteArray), (⟨#[50, 50, 50, 50, 50]⟩ : ByteArray), (⟨#[49, 48, 48, 48, 48]⟩ : ByteArray), (⟨#[49, 48, 50, 50, 50]⟩ : ByteArray), (⟨#[48, 48, 50, 50, 50]⟩ : ByteArray)] : List ByteArray) : List ByteArray)).bind fun y159 => (spec_siPlain.l0 k ([] : List (S35)) y159 (y159.length : Int) 0)) = some r := h
 clear h
 obtain ⟨y159, hy159⟩ : ∃ y_ : List ByteArray, y_ = (([(⟨#[48, 48, 48, 48, 48]⟩ : ByteArray), (⟨#[48, 48, 48, 48, 48, 115]⟩ : ByteArray), (⟨#[50, 50, 50, 50, 50]⟩ : ByteArray), (⟨#[49, 48, 48, 48, 48]⟩ : ByteArray), (⟨#[49, 48, 50, 50, 50]⟩ : ByteArray), (⟨#[48, 48, 50, 50, 50]⟩ : ByteArray)] : List ByteArray)) := ⟨_, rfl⟩
 replace H : (spec_siPlain.l0 k ([] : List (S35)) y159 (y159.length : Int) 0) = some r := by first | (rw [hy159]; with_reducible exact H) | (have H2_ := (Option.bind_some _ _).symm.trans H; rw [hy159]; with_reducible exact H2_) | (have H2_ := (Option.bind_some _ _).symm.trans H; with_reducible exact H2_) | with_reducible exact H | (rw [hy159]; exact H) | exact H
 have Ny159 := Aside0.mk hy159
 clear hy159
 have H' := Aside0.mk H
 clear H
 go_enter Tryz.func48, Tryz.ntmps48
 go_wp2_with (first | ((with_reducible refine gate_dst (N := 6) rfl ?_); refine Kd.R_lit Kd.string _ 9 ?hg (N := 6) ?hd (xs := ([(⟨#[48, 48, 48, 48, 48]⟩ : ByteArray), (⟨#[48, 48, 48, 48, 48, 115]⟩ : ByteArray), (⟨#[50, 50, 50, 50, 50]⟩ : ByteArray), (⟨#[49, 48, 48, 48, 48]⟩ : ByteArray), (⟨#[49, 48, 50, 50, 50]⟩ : ByteArray), (⟨#[48, 48, 50, 50, 50]⟩ : ByteArray)] : List ByteArray)) (inner := [.string (⟨#[48, 48, 48, 48, 48]⟩ : ByteArray), .string (⟨#[48, 48, 48, 48, 48, 115]⟩ : ByteArray), .string (⟨#[50, 50, 50, 50, 50]⟩ : ByteArray), .string (⟨#[49, 48, 48, 48, 48]⟩ : ByteArray), .string (⟨#[49, 48, 50, 50, 50]⟩ : ByteArray), .string (⟨#[48, 48, 50, 50, 50]⟩ : ByteArray)]) (ok := fun _ => True) (okp := fun _ => True) ?hr ?hp (fun _ hk => hk) trivial (Below.refl _ _) (Nat.le_refl _) (by simp) ?_; (case hd => rfl); (case hg => rfl); (case hr => first | (go_simp; done) | (go_simp; rfl)); (case hp => exact (Reps.one (show Kd.M Kd.string _ _ _ (⟨#[48, 48, 48, 48, 48]⟩ : ByteArray) [.string (⟨#[48, 48, 48, 48, 48]⟩ : ByteArray)] from rfl) (Reps.one (show Kd.M Kd.string _ _ _ (⟨#[48, 48, 48, 48, 48, 115]⟩ : ByteArray) [.string (⟨#[48, 48, 48, 48, 48, 115]⟩ : ByteArray)] from rfl) (Reps.one (show Kd.M Kd.string _ _ _ (⟨#[50, 50, 50, 50, 50]⟩ : ByteArray) [.string (⟨#[50, 50, 50, 50, 50]⟩ : ByteArray)] from rfl) (Reps.one (show Kd.M Kd.string _ _ _ (⟨#[49, 48, 48, 48, 48]⟩ : ByteArray) [.string (⟨#[49, 48, 48, 48, 48]⟩ : ByteArray)] from rfl) (Reps.one (show Kd.M Kd.string _ _ _ (⟨#[49, 48, 50, 50, 50]⟩ : ByteArray) [.string (⟨#[49, 48, 50, 50, 50]⟩ : ByteArray)] from rfl) (Reps.one (show Kd.M Kd.string _ _ _ (⟨#[48, 48, 50, 50, 50]⟩ : ByteArray) [.string (⟨#[48, 48, 50, 50, 50]⟩ : ByteArray)] from rfl) (Reps.none _ _)))))))); intro v160 w1 ho2 hb hg_ hnew_; clear hg_ hnew_; (first | rw [← Ny159.out] at ho2 | (simp only [Int.reduceToNat] at ho2; rw [← Ny159.out] at ho2)); have n0_ := Aside0.mk (Kd.R_lower ho2 (bz_ HB)); have n1_ := Aside0.mk (bt_ HB hb); clear HB; have HO161 := n0_; have HB := n1_; clear n0_ n1_; clear hb ho2; obtain ⟨Ao3, co3, eo3⟩ := Kd.R_slice HO161.out; subst eo3))
 go_loopg [1, 8] k (fun kq v1 v8 w' => ∃ (x1_1 : List (S35)) (x8_1 : Int), v8 = .int .i64 x8_1 ∧ Aside0 (spec_siPlain.l0 kq x1_1 y159 (y159.length : Int) x8_1 = some r) ∧ Aside0 (kq ≤ k) ∧ Aside0 (Kd.R k35 35 w' w.heap.size (fun _ => True) v1 x1_1) ∧ Aside0 (Kd.R Kd.string 9 w' w.heap.size (fun _ => True) (.slice Ao3 y159.length co3) y159) ∧ Aside0 (Below w.heap.size w w'))
 case atStart => exact ⟨(([] : List (S35))), (0), (by first | rfl | (simp; done) | (simp [*]; done)), H', ⟨Nat.le_refl _⟩, ⟨by first | exact Kd.R_nil _ _ _ _ _ | exact Kd.N_nil _ _ _ _ _ | exact Kd.V_nil _ _ _ _ _ | exact Kd.Q_nil _ _ _ _ _ | exact Kd.S_nil _ _ _ _ _⟩, ⟨by (with_reducible repeat (first | apply rA_ | apply rN_ | apply rD_)); exact HO161.out⟩, ⟨bb_ HB⟩⟩
 case round =>
  clear H'
  try clear p2
  obtain ⟨x1_1, x8_1, rfl, HA, HK1, HO_1, HO_6, HB⟩ := hrel
  cases gk with
  | zero => exact absurd HA.out (by simp [spec_siPlain.l0])
  | succ k1 =>
   have H := HA.out
   clear HA
   simp only [spec_siPlain.l0] at H
   by_cases c4 : x8_1 < (y159.length : Int)
   ·rw [if_pos c4] at H
    have c4b0 : decide (x8_1 < (y159.length : Int)) = true := decide_eq_true c4
    clear c4
    by_cases c5 : 0 ≤ x8_1
    ·rw [if_pos c5] at H
     have c5b0 : decide (0 ≤ x8_1) = true := decide_eq_true c5
     clear c5
     by_cases c6 : x8_1 < (y159.length : Int)
     ·rw [if_pos c6] at H
      have c6b0 : decide (x8_1 < (y159.length : Int)) = true := decide_eq_true c6
      clear c6
      replace H := Option.bind_eq_some_iff.mp H
      obtain ⟨⟨t163, t164, t165, t166, t167, t168, t169⟩, A70, H⟩ := H
      try dsimp only at H
      have A7 := Aside0.mk A70
      clear A70
      by_cases c8 : x1_1.length < 2932031007402
      ·rw [if_pos c8] at H
       have LMc8 := Aside0.mk c8
       clear c8
       obtain ⟨y171, hy171⟩ : ∃ y_ : List (S35), y_ = (x1_1 ++ [(⟨t163, t164, t165, t166, t167, t168⟩ : S35)]) := ⟨_, rfl⟩
       replace H : (spec_siPlain.l0 k1 y171 y159 (y159.length : Int) (wrap64 (x8_1 + 1))) = some r := by first | (rw [hy171]; with_reducible exact H) | (have H2_ := (Option.bind_some _ _).symm.trans H; rw [hy171]; with_reducible exact H2_) | (have H2_ := (Option.bind_some _ _).symm.trans H; with_reducible exact H2_) | with_reducible exact H | (rw [hy171]; exact H) | exact H
       have Ny171 := Aside0.mk hy171
       clear hy171
       have H' := Aside0.mk H
       clear H
       have p162 : 0 ≤ (x8_1 : Int) := of_decide_eq_true as_
       have q162 : x8_1 < (y159.length : Int) := of_decide_eq_true as_
       obtain ⟨ad162, e162, hx162_0⟩ := Kd.at_string (Kd.R_reads' HO_6.out).2.2 x8_1 p162 q162
       cases e162
       replace p162 := eq_true p162
       replace q162 := eq_true q162
       go_wp2_with (first | ((with_reducible refine gate_callee (f := 72) rfl ?_); refine goesL_ (some 14) rfl rfl Tryz.func72 (by kernel_rfl) rfl #[.string (rdOf ByteArray.empty y159 x8_1)] rfl args_ ?_; (with_reducible refine (spec_shParse.calls k1 (rdOf ByteArray.empty y159 x8_1) t163 t164 t165 t166 t167 t168 t169 _ A7.out).mono ?_); rintro e w9 ⟨rfl, hb⟩; refine ⟨_, rfl, ?_⟩; have n0_ := Aside0.mk (Kd.R_below (ra_ HO_1) hb); have n1_ := Aside0.mk (Kd.R_below (ra_ HO_6) hb); have n2_ := Aside0.mk (bt_ HB hb); clear HO_1; clear HO_6; clear HB; have HO_1 := n0_; have HO_6 := n1_; have HB := n2_; clear n0_ n1_ n2_; (try clear hb); (try clear hb2); (try clear hk); (try clear hi)) | ((with_reducible refine gate_dst (N := 4) rfl ?_); refine box_event ?hg (N := 4) ?hd (cs := #[.int .i64 0, .int .i64 0, .int .i64 0, .int .i64 0, .int .i64 0, .bool false]) (t := 35) ?hr ?_; (case hd => rfl); (case hg => rfl); (case hr => first | (go_simp; done) | (go_simp; rfl)); intro gb170 hg w10 hbox hb; have n0_ := Aside0.mk (Kd.R_below (Kd.R_elderB (ra_ HO_1) gb170 (Nat.le_of_eq hg.symm)) hb); have n1_ := Aside0.mk (Kd.R_below (ra_ HO_6) hb); have n2_ := Aside0.mk (bt_ HB hb); have n3_ := Aside0.mk (hbox); have n4_ := gz_ hg HB; have n5_ := gz_ hg HB; clear HO_1; clear HO_6; clear HB; have HO_1 := n0_; have HO_6 := n1_; have HB := n2_; have BK170 := n3_; have GW170 := n4_; have GE170 := n5_; clear n0_ n1_ n2_ n3_ n4_ n5_; clear hb hbox hg; have hcz11_0 := cz0_ BK170; have hcz11_1 := cz1_ BK170; have hcz11_2 := cz2_ BK170; have hcz11_3 := cz3_ BK170; have hcz11_4 := cz4_ BK170; have hcz11_5 := cz5_ BK170; have hfz11_0 := fz_ BK170 0; have hfz11_1 := fz_ BK170 1; have hfz11_2 := fz_ BK170 2; have hfz11_3 := fz_ BK170 3; have hfz11_4 := fz_ BK170 4; have hfz11_5 := fz_ BK170 5) | ((with_reducible refine gate_builtin (b := .append) (xs := #[.tmp 17, .tmp 19]) rfl ?_); at_builtin; refine Kd.R_append k35 (w0 := w) w.heap.size rfl (.tmp 17) (.tmp 19) 74 35 (.agg #[(.int .i64 0), (.int .i64 0), (.int .i64 0), (.int .i64 0), (.int .i64 0), (.bool false)]) 48 rfl Tryz.underlying74 info35 rfl (by decide) (by omega) u1 x1_1 (⟨t163, t164, t165, t166, t167, t168⟩ : S35) [.int .i64 t163, .int .i64 t164, .int .i64 t165, .int .i64 t166, .int .i64 t167, .bool t168] (fun k_ => k_ ≠ gb170) (fun _ => False) rfl (by first | (go_simp; done) | (go_simp; rfl)) ?aP (fun _ hk => hk.elim) ?aF ?aO ?aB ?aS ?aL ?_; (case aP => exact k35_mkM _ _ _ (⟨t163, t164, t165, t166, t167, t168⟩ : S35)); (case aB => exact (bb1_ HB GE170)); (case aF => exact (fun k_ hk => Kd.freshB (g := gb170) (o := .cells #[.int .i64 t163, .int .i64 t164, .int .i64 t165, .int .i64 t166, .int .i64 t167, .bool t168] 35 (0, 0)) (by (with_reducible repeat (first | apply lN_ | apply lD_ | apply lA_)); refine blk_put (cs := #[.int .i64 t163, .int .i64 t164, .int .i64 t165, .int .i64 t166, .int .i64 t167, .bool false]) ?_ 5 _ rfl; (with_reducible repeat (first | apply lN_ | apply lD_ | apply lA_)); refine blk_put (cs := #[.int .i64 t163, .int .i64 t164, .int .i64 t165, .int .i64 t166, .int .i64 0, .bool false]) ?_ 4 _ rfl; (with_reducible repeat (first | apply lN_ | apply lD_ | apply lA_)); refine blk_put (cs := #[.int .i64 t163, .int .i64 t164, .int .i64 t165, .int .i64 0, .int .i64 0, .bool false]) ?_ 3 _ rfl; (with_reducible repeat (first | apply lN_ | apply lD_ | apply lA_)); refine blk_put (cs := #[.int .i64 t163, .int .i64 t164, .int .i64 0, .int .i64 0, .int .i64 0, .bool false]) ?_ 2 _ rfl; (with_reducible repeat (first | apply lN_ | apply lD_ | apply lA_)); refine blk_put (cs := #[.int .i64 t163, .int .i64 0, .int .i64 0, .int .i64 0, .int .i64 0, .bool false]) ?_ 1 _ rfl; (with_reducible repeat (first | apply lN_ | apply lD_ | apply lA_)); refine blk_put (cs := #[.int .i64 0, .int .i64 0, .int .i64 0, .int .i64 0, .int .i64 0, .bool false]) ?_ 0 _ rfl; (with_reducible repeat (first | apply lN_ | apply lD_ | apply lA_)); exact BK170.out) k_ hk)); (case aO => exact (by (with_reducible repeat (first | apply rA_ | apply rN_ | apply rD_)); exact Kd.R_mono (Kd.R_far (p := ⟨gb170, 5, none⟩) (Kd.R_far (p := ⟨gb170, 4, none⟩) (Kd.R_far (p := ⟨gb170, 3, none⟩) (Kd.R_far (p := ⟨gb170, 2, none⟩) (Kd.R_far (p := ⟨gb170, 1, none⟩) (Kd.R_far (p := ⟨gb170, 0, none⟩) (Kd.R_mono HO_1.out (fun k_ hk => (⟨hk, hk.2⟩ : _ ∧ k_ ≠ gb170))) (fun _ hk => hk.2) (.int .i64 t163)) (fun _ hk => hk.2) (.int .i64 t164)) (fun _ hk => hk.2) (.int .i64 t165)) (fun _ hk => hk.2) (.int .i64 t166)) (fun _ hk => hk.2) (.int .i64 t167)) (fun _ hk => hk.2) (.bool t168)) (fun _ hk => hk.1.2))); (case aS => exact (below_size (bb1_ HB GE170))); (case aL => have := LMc8.out; omega); intro v172 w12 ho hb hg hat; rw [← Ny171.out] at ho; have n0_ := Aside0.mk (Kd.R_over' (rf_ (fm_ (fr_ (fr_ (fr_ (fr_ (fr_ (fr_ (ft_ HO_6 BK170) 0 (.int .i64 t163)) 1 (.int .i64 t164)) 2 (.int .i64 t165)) 3 (.int .i64 t166)) 4 (.int .i64 t167)) 5 (.bool t168)))) (Kd.R_typed (by (with_reducible repeat (first | apply rA_ | apply rN_ | apply rD_)); exact (Kd.R_mono (Kd.R_far (p := ⟨gb170, 5, none⟩) (Kd.R_far (p := ⟨gb170, 4, none⟩) (Kd.R_far (p := ⟨gb170, 3, none⟩) (Kd.R_far (p := ⟨gb170, 2, none⟩) (Kd.R_far (p := ⟨gb170, 1, none⟩) (Kd.R_far (p := ⟨gb170, 0, none⟩) (Kd.R_mono HO_1.out (fun k_ hk => (⟨hk, hk.2⟩ : _ ∧ k_ ≠ gb170))) (fun _ hk => hk.2) (.int .i64 t163)) (fun _ hk => hk.2) (.int .i64 t164)) (fun _ hk => hk.2) (.int .i64 t165)) (fun _ hk => hk.2) (.int .i64 t166)) (fun _ hk => hk.2) (.int .i64 t167)) (fun _ hk => hk.2) (.bool t168)) (fun _ h_ => h_.1)))) (by decide) hg); have n1_ := Aside0.mk (blk_grown (g := gb170) (o := .cells #[.int .i64 t163, .int .i64 t164, .int .i64 t165, .int .i64 t166, .int .i64 t167, .bool t168] 35 (0, 0)) (by (with_reducible repeat (first | apply lN_ | apply lD_ | apply lA_)); refine blk_put (cs := #[.int .i64 t163, .int .i64 t164, .int .i64 t165, .int .i64 t166, .int .i64 t167, .bool false]) ?_ 5 _ rfl; (with_reducible repeat (first | apply lN_ | apply lD_ | apply lA_)); refine blk_put (cs := #[.int .i64 t163, .int .i64 t164, .int .i64 t165, .int .i64 t166, .int .i64 0, .bool false]) ?_ 4 _ rfl; (with_reducible repeat (first | apply lN_ | apply lD_ | apply lA_)); refine blk_put (cs := #[.int .i64 t163, .int .i64 t164, .int .i64 t165, .int .i64 0, .int .i64 0, .bool false]) ?_ 3 _ rfl; (with_reducible repeat (first | apply lN_ | apply lD_ | apply lA_)); refine blk_put (cs := #[.int .i64 t163, .int .i64 t164, .int .i64 0, .int .i64 0, .int .i64 0, .bool false]) ?_ 2 _ rfl; (with_reducible repeat (first | apply lN_ | apply lD_ | apply lA_)); refine blk_put (cs := #[.int .i64 t163, .int .i64 0, .int .i64 0, .int .i64 0, .int .i64 0, .bool false]) ?_ 1 _ rfl; (with_reducible repeat (first | apply lN_ | apply lD_ | apply lA_)); refine blk_put (cs := #[.int .i64 0, .int .i64 0, .int .i64 0, .int .i64 0, .int .i64 0, .bool false]) ?_ 0 _ rfl; (with_reducible repeat (first | apply lN_ | apply lD_ | apply lA_)); exact BK170.out) hg (Kd.R_away HO_1.out (fun _ hk => hk.2))); have n2_ := Aside0.mk (hb); have n3_ := Aside0.mk (ho); clear HO_6; clear BK170; clear HB; clear HO_1; have HO_6 := n0_; have BK170 := n1_; have HB := n2_; have HO173 := n3_; clear n0_ n1_ n2_ n3_; clear ho hb hg hat))
       go_roundg k1
       case measure => have := HK1.out; omega
       case rel => exact ⟨(y171), (wrap64 (x8_1 + 1)), (by first | rfl | (simp; done) | (simp [*]; done)), H', ⟨by have := HK1.out; omega⟩, ⟨by (with_reducible repeat (first | apply rA_ | apply rN_ | apply rD_)); exact Kd.R_mono HO173.out (fun _ hk => trivial)⟩, ⟨by (with_reducible repeat (first | apply rA_ | apply rN_ | apply rD_)); exact HO_6.out⟩, ⟨bb1_ HB GE170⟩⟩
      ·rw [if_neg c8] at H
       exact absurd H (by simp)
     ·rw [if_neg c6] at H
      exact absurd H (by simp)
    ·rw [if_neg c5] at H
     exact absurd H (by simp)
   ·rw [if_neg c4] at H
    have c4b0 : decide (x8_1 < (y159.length : Int)) = false := decide_eq_false c4
    clear c4
    obtain rfl := Option.some.inj H
    go_wp2
    go_ret
    exact ⟨_, by first | rfl | (simp [errW_none, errW_some] <;> rfl) | (simp [*, errW_none, errW_some] <;> rfl), by (with_reducible repeat (first | apply rA_ | apply rN_ | apply rD_)); exact HO_1.out, bb_ HB⟩

/-! ### spec_orSwap: function 73 -/
def spec_orSwap.f (a0 : Int) : Option (Int) := if a0 = 2 then ((spec_orOpposite.f a0).bind fun t174 => (some t174)) else (if a0 = 3 then ((spec_orOpposite.f a0).bind fun t175 => (some t175)) else (some a0))
set_option maxHeartbeats 8000000 in
set_option maxRecDepth 100000 in
theorem spec_orSwap.calls (a0 : Int) (r : Int) (w : World) (h : spec_orSwap.f a0 = some r) :
  Calls Tryz.prog 73 #[.int .i64 a0] w fun e w' => e = .returned (.int .i64 r) ∧ Drawn0 w w' := by
 have H : (if a0 = 2 then ((spec_orOpposite.f a0).bind fun t174 => (some t174)) else (if a0 = 3 then ((spec_orOpposite.f a0).bind fun t175 => (some t175)) else (some a0))) = some r := h
 clear h
 by_cases c2 : a0 = 2
 ·rw [if_pos c2] at H
  have c2b0 : (a0 == 2) = true := beq_iff_eq.mpr c2
  have c2b1 : (a0 != 2) = false := bne_eq_false_iff_eq.mpr c2
  clear c2
  replace H := Option.bind_eq_some_iff.mp H
  obtain ⟨t174, A30, H⟩ := H
  try dsimp only at H
  have A3 := Aside0.mk A30
  clear A30
  obtain rfl := Option.some.inj H
  go_enter Tryz.func73, Tryz.ntmps73
  go_wp2_with (first | ((with_reducible refine gate_callee (f := 70) rfl ?_); refine goesL_ (some 10) rfl rfl Tryz.func70 (by kernel_rfl) rfl #[.int .i64 a0] rfl args_ ?_; (with_reducible refine (spec_orOpposite.calls a0 t174 _ A3.out).mono ?_); rintro e w' ⟨rfl, ⟨nd, rfl⟩⟩; refine ⟨_, rfl, ?_⟩))
  go_ret
  exact ⟨by first | rfl | (simp; done) | (simp [*]; done), by repeat (first | exact Drawn0.refl _ | apply Drawn0.step)⟩
 ·rw [if_neg c2] at H
  have c2b0 : (a0 == 2) = false := beq_eq_false_iff_ne.mpr c2
  have c2b1 : (a0 != 2) = true := bne_iff_ne.mpr c2
  by_cases c4 : a0 = 3
  ·rw [if_pos c4] at H
   have c4b0 : (a0 == 3) = true := beq_iff_eq.mpr c4
   have c4b1 : (a0 != 3) = false := bne_eq_false_iff_eq.mpr c4
   clear c4
   replace H := Option.bind_eq_some_iff.mp H
   obtain ⟨t175, A50, H⟩ := H
   try dsimp only at H
   have A5 := Aside0.mk A50
   clear A50
   obtain rfl := Option.some.inj H
   go_enter Tryz.func73, Tryz.ntmps73
   go_wp2_with (first | ((with_reducible refine gate_callee (f := 70) rfl ?_); refine goesL_ (some 10) rfl rfl Tryz.func70 (by kernel_rfl) rfl #[.int .i64 a0] rfl args_ ?_; (with_reducible refine (spec_orOpposite.calls a0 t175 _ A5.out).mono ?_); rintro e w' ⟨rfl, ⟨nd, rfl⟩⟩; refine ⟨_, rfl, ?_⟩))
   go_ret
   exact ⟨by first | rfl | (simp; done) | (simp [*]; done), by repeat (first | exact Drawn0.refl _ | apply Drawn0.step)⟩
  ·rw [if_neg c4] at H
   have c4b0 : (a0 == 3) = false := beq_eq_false_iff_ne.mpr c4
   have c4b1 : (a0 != 3) = true := bne_iff_ne.mpr c4
   obtain rfl := Option.some.inj H
   go_enter Tryz.func73, Tryz.ntmps73
   go_wp2
   go_ret
   exact ⟨by first | rfl | (simp; done) | (simp [*]; done), by repeat (first | exact Drawn0.refl _ | apply Drawn0.step)⟩

/-! ### spec_orMirror: function 49 -/
def spec_orMirror.f (a0_0 : Int) (a0_1 : Int) : Option (Int × Int) := (spec_orSwap.f a0_0).bind fun t178 => ((spec_orSwap.f a0_1).bind fun t179 => (some (t178, t179)))
def spec_orMirror.T1 : Bool × List (List Nat × List Nat) := (true, [([], []), ([0], [0]), ([1], [1]), ([], []), ([3], [3]), ([4, 2], [4]), ([2, 5], [2, 5]), ([6, 5, 0, 1, 2, 3, 4, 5, 6], [6])])
def spec_orMirror.B1 : List Nat := [0, 1, 3, 0, 8, 31, 63, 127]
theorem spec_orMirror.tab1 : rtab .any (opsOf Tryz.f49 1) = spec_orMirror.T1 := by kernel_rfl
theorem spec_orMirror.bits1 : waitsOk spec_orMirror.T1.2 spec_orMirror.B1 = true := by kernel_rfl
set_option maxHeartbeats 8000000 in
set_option maxRecDepth 100000 in
theorem spec_orMirror.calls (a0_0 : Int) (a0_1 : Int) (r1 : Int) (r2 : Int) (w : World) (h : spec_orMirror.f a0_0 a0_1 = some (r1, r2)) :
  Calls Tryz.prog 49 #[.agg #[.int .i64 a0_0, .int .i64 a0_1]] w fun e w' => e = .returned (.agg #[.int .i64 r1, .int .i64 r2]) ∧ Below w.heap.size w w' := by
 have hu36 := Tryz.underlying36
 have HB := Aside0.mk (Below.refl w.heap.size w)
 have H : ((spec_orSwap.f a0_0).bind fun t178 => ((spec_orSwap.f a0_1).bind fun t179 => (some (t178, t179)))) = some (r1, r2) := h
 clear h
 replace H := Option.bind_eq_some_iff.mp H
 obtain ⟨t178, A20, H⟩ := H
 try dsimp only at H
 have A2 := Aside0.mk A20
 clear A20
 replace H := Option.bind_eq_some_iff.mp H
 obtain ⟨t179, A30, H⟩ := H
 try dsimp only at H
 have A3 := Aside0.mk A30
 clear A30
 simp only [Option.some.injEq, Prod.mk.injEq] at H
 obtain ⟨rfl, rfl⟩ := H
 go_enter Tryz.func49, Tryz.ntmps49
 try go_wp2_with (first | ((with_reducible refine gate_dst (N := 1) rfl ?_); refine box_event ?hg (N := 1) ?hd (cs := #[.int .i64 a0_0, .int .i64 a0_1]) (t := 36) ?hr ?_; (case hd => rfl); (case hg => rfl); (case hr => first | (go_simp; done) | (go_simp; rfl)); intro gb176 hg w4 hbox hb; have n0_ := Aside0.mk (bt_ HB hb); have n1_ := Aside0.mk (hbox); have n2_ := gz_ hg HB; have n3_ := gz_ hg HB; clear HB; have HB := n0_; have BK176 := n1_; have GW176 := n2_; have GE176 := n3_; clear n0_ n1_ n2_ n3_; clear hb hbox hg) | ((with_reducible refine gate_dst (N := 2) rfl ?_); refine box_event ?hg (N := 2) ?hd (cs := #[.int .i64 0, .int .i64 0]) (t := 36) ?hr ?_; (case hd => rfl); (case hg => rfl); (case hr => first | (go_simp; done) | (go_simp; rfl)); intro gb177 hg w5 hbox hb; have n0_ := Aside0.mk (lb_ BK176 hb); have n1_ := Aside0.mk (below_step (bb1_ HB GE176) hb); have n2_ := Aside0.mk (hbox); have n3_ := gy_ hg (bb1_ HB GE176); have n4_ := gy_ hg (bb1_ HB GE176); have n5_ := nl_ hg BK176; have n6_ := ng_ hg BK176; clear BK176; clear HB; have BK176 := n0_; have HB := n1_; have BK177 := n2_; have GW177 := n3_; have GE177 := n4_; have NB176_177 := n5_; have NB177_176 := n6_; clear n0_ n1_ n2_ n3_ n4_ n5_ n6_; clear hb hbox hg))
 have n0_ := Aside0.mk (blk_drew BK176.out)
 have n1_ := Aside0.mk (blk_drew BK177.out)
 have n2_ := Aside0.mk (below_drew1 HB.out)
 clear BK176
 clear BK177
 clear HB
 have BK176 := n0_
 have BK177 := n1_
 have HB := n2_
 clear n0_ n1_ n2_
 refine start_ (n := 8) (S := fun w' => w'.cell? ⟨gb176, 0, none⟩ = some (.int .i64 a0_0) ∧ w'.cell? ⟨gb176, 1, none⟩ = some (.int .i64 a0_1)) (ds := []) #[false, false, false, false, false, false, false, false] (by kernel_rfl) rfl rfl ⟨(blk_cell BK176.out 0).trans rfl, (blk_cell BK176.out 1).trans rfl⟩ (fun hHeld => ?_); refine with_tabW spec_orMirror.tab1 spec_orMirror.bits1 (fun HT_ HW_ => ?_)
 generalize w5.drew = w6 at BK176 BK177 HB hHeld ⊢
 refine pu_ (i := 0) (N := some 3) (v := ?_) (a' := ?_) #[true, false, false, false, false, false, false, false] rfl rfl (Or.inl ⟨by rfl, ?_⟩) ?_ ?_
 rotate_left
 ·intro w'
  go_simp
  with_reducible rfl
 rotate_left
 ·simp only [Act.put, sA_, sB_, sC_, i64_w, i32_w]
  rfl
 refine pu_ (i := 3) (N := some 6) (v := ?_) (a' := ?_) #[true, false, false, true, false, false, false, false] rfl rfl (Or.inl ⟨by rfl, ?_⟩) ?_ ?_
 rotate_left
 ·intro w'
  go_simp
  with_reducible rfl
 rotate_left
 ·simp only [Act.put, sA_, sB_, sC_, i64_w, i32_w]
  rfl
 refine take_ (i := 1) (N := some 4) (v := ?_) (a' := ?_) #[true, true, false, true, false, false, false, false] rfl rfl (take_ofW HT_.out HW_.out (by kernel_rfl)) (fun _ _ _ h => h) (Or.inl ⟨by rfl, ?_⟩) hHeld ?_ ?_
 rotate_left
 ·rintro w' ⟨s0, s1⟩
  go_simp
  with_reducible rfl
 rotate_left
 ·simp only [Act.put, sA_, sB_, sC_, i64_w, i32_w]
  rfl
 refine take_ (i := 4) (N := some 7) (v := ?_) (a' := ?_) #[true, true, false, true, true, false, false, false] rfl rfl (take_ofW HT_.out HW_.out (by kernel_rfl)) (fun _ _ _ h => h) (Or.inl ⟨by rfl, ?_⟩) hHeld ?_ ?_
 rotate_left
 ·rintro w' ⟨s0, s1⟩
  go_simp
  with_reducible rfl
 rotate_left
 ·simp only [Act.put, sA_, sB_, sC_, i64_w, i32_w]
  rfl
 refine one_ (i := 2) (N := some 5) #[true, true, true, true, true, false, false, false] rfl rfl (one_of HT_.out (by kernel_rfl)) (by decide) (fun K hK => ?_)
 refine goes_ Tryz.func73 (by kernel_rfl) rfl #[.int .i64 a0_0] (by rfl) rfl rfl args_ ?_
 with_reducible refine (spec_orSwap.calls a0_0 t178 _ A2.out).mono ?_
 rintro e w' ⟨rfl, ⟨nd, rfl⟩⟩
 refine ⟨_, rfl, ?_⟩
 refine hK.out _ _ ⟨(blk_cell BK176.out 0).trans rfl, (blk_cell BK176.out 1).trans rfl⟩ (fun hHeld => ?_)
 clear hK K
 refine norm_ (a' := ?_) ?_ ?_
 rotate_left
 ·show Act.put _ (some 5) _ = _
  simp only [Act.put, sA_, sB_, sC_, i64_w, i32_w]
  rfl
 refine one_ (i := 5) (N := some 8) #[true, true, true, true, true, true, false, false] rfl rfl (one_of HT_.out (by kernel_rfl)) (by decide) (fun K hK => ?_)
 refine goes_ Tryz.func73 (by kernel_rfl) rfl #[.int .i64 a0_1] (by rfl) rfl rfl args_ ?_
 with_reducible refine (spec_orSwap.calls a0_1 t179 _ A3.out).mono ?_
 rintro e w' ⟨rfl, ⟨nd, rfl⟩⟩
 refine ⟨_, rfl, ?_⟩
 refine hK.out _ _ ⟨(blk_cell BK176.out 0).trans rfl, (blk_cell BK176.out 1).trans rfl⟩ (fun hHeld => ?_)
 clear hK K
 refine norm_ (a' := ?_) ?_ ?_
 rotate_left
 ·show Act.put _ (some 8) _ = _
  simp only [Act.put, sA_, sB_, sC_, i64_w, i32_w]
  rfl
 refine pu_ (i := 6) (N := some 9) (v := ?_) (a' := ?_) #[true, true, true, true, true, true, true, false] rfl rfl (Or.inl ⟨by rfl, ?_⟩) ?_ ?_
 rotate_left
 ·intro w'
  go_simp
  with_reducible rfl
 rotate_left
 ·simp only [Act.put, sA_, sB_, sC_, i64_w, i32_w]
  rfl
 refine one_ (i := 7) (N := none) #[true, true, true, true, true, true, true, true] rfl rfl (one_of HT_.out (by kernel_rfl)) (by decide) (fun K hK => ?_)
 have hs7 := cz0_ BK177
 have hfs7 := fz_ BK177 0
 have hns7_0 := NB176_177.out
 have hms7_0 := NB177_176.out
 have hs8 := cz1_ BK177
 have hfs8 := fz_ BK177 1
 have hns8_0 := NB176_177.out
 have hms8_0 := NB177_176.out
 refine skip_ (w1 := ?_) (by rfl) rfl ?_ ?_
 rotate_left
 ·go_simp
  rfl
 refine hK.out _ _ ⟨((cell_far (p := ⟨gb177, _, none⟩) NB176_177.out _).trans (((cell_far (p := ⟨gb177, _, none⟩) NB176_177.out _).trans (hHeld.1)))), ((cell_far (p := ⟨gb177, _, none⟩) NB176_177.out _).trans (((cell_far (p := ⟨gb177, _, none⟩) NB176_177.out _).trans (hHeld.2))))⟩ (fun hHeld => ?_)
 clear hK K
 refine done_ (done_of HT_.out (by kernel_rfl)) ?_
 try go_wp2
 refine bodyPost_ret (results_cell_row rfl _ _ gb177 36 #[.int .i64 t178, .int .i64 t179] (0, 0) _ rfl (by (with_reducible repeat (first | apply lN_ | apply lD_ | apply lA_)); refine blk_put (cs := #[.int .i64 t178, .int .i64 0]) ?_ 1 _ rfl; (with_reducible repeat (first | apply lN_ | apply lD_ | apply lA_)); refine blk_put (cs := #[.int .i64 0, .int .i64 0]) ?_ 0 _ rfl; (with_reducible repeat (first | apply lN_ | apply lD_ | apply lA_)); exact BK177.out) Tryz.underlying36 rfl (by kernel_rfl)) rfl ?_
 exact ⟨by first | rfl | (simp [errW_none, errW_some] <;> rfl) | (simp [*, errW_none, errW_some] <;> rfl), bb2_ HB GE176 GE177⟩

/-! ### spec_mvMirror: function 50 -/
def spec_mvMirror.l0 : Nat → ByteArray → Int → ByteArray → Int → Option (ByteArray × Int)
 | 0, _, _, _, _ => none
 | k + 1, x3, x4, x181000, x181001 => if x4 < (x181000.size : Int) then (if 0 ≤ x4 then (if (bt x181000 x4) = 108 then (if x3.size + 1 ≤ 9223372036854775807 then (spec_mvMirror.l0 k (x3 ++ (⟨#[114]⟩ : ByteArray)) (wrap64 (x4 + 1)) x181000 x181001) else (none)) else (if (bt x181000 x4) = 114 then (if x3.size + 1 ≤ 9223372036854775807 then (spec_mvMirror.l0 k (x3 ++ (⟨#[108]⟩ : ByteArray)) (wrap64 (x4 + 1)) x181000 x181001) else (none)) else (if x4 ≤ (wrap64 (x4 + 1)) then (if (wrap64 (x4 + 1)) ≤ (x181000.size : Int) then (if x3.size + (x181000.extract (x4 : Int).toNat ((wrap64 (x4 + 1)) : Int).toNat).size ≤ 9223372036854775807 then (spec_mvMirror.l0 k (x3 ++ (x181000.extract (x4 : Int).toNat ((wrap64 (x4 + 1)) : Int).toNat)) (wrap64 (x4 + 1)) x181000 x181001) else (none)) else (none)) else (none)))) else (none)) else (some (x3, x181001))
def spec_mvMirror.f (k : Nat) (a0_0 : ByteArray) (a0_1 : Int) : Option (ByteArray × Int) := spec_mvMirror.l0 k (⟨#[]⟩ : ByteArray) 0 a0_0 a0_1
theorem spec_mvMirror.mono_l : ∀ k, (∀ y0 y1 y2 y3, LeO (spec_mvMirror.l0 k y0 y1 y2 y3) (spec_mvMirror.l0 (k + 1) y0 y1 y2 y3))
 | 0 => fun _ _ _ _ r h => by simp [spec_mvMirror.l0] at h
 | k + 1 => by
  have ih0 := spec_mvMirror.mono_l k
  ·intro y0 y1 y2 y3
   unfold spec_mvMirror.l0
   repeat' first
   | (with_reducible exact ih0 _ _ _ _)
   | (with_reducible exact LeO.refl _)
   | (with_reducible exact LeO.none _)
   | (with_reducible refine LeO.ite ?_ ?_)
   | (with_reducible refine LeO.bind ?_ (fun _ => ?_))
   | exact ih0 _ _ _ _
   | exact LeO.none _
   | refine LeO.ite ?_ ?_
   | refine LeO.bind ?_ (fun _ => ?_)
theorem spec_mvMirror.mono : ∀ a0 a1 k, LeO (spec_mvMirror.f k a0 a1) (spec_mvMirror.f (k + 1) a0 a1) := by
 intro a0 a1 k
 have ih0 := spec_mvMirror.mono_l k
 unfold spec_mvMirror.f
 repeat' first
   | (with_reducible exact ih0 _ _ _ _)
   | (with_reducible exact LeO.refl _)
   | (with_reducible exact LeO.none _)
   | (with_reducible refine LeO.ite ?_ ?_)
   | (with_reducible refine LeO.bind ?_ (fun _ => ?_))
   | exact ih0 _ _ _ _
   | exact LeO.none _
   | refine LeO.ite ?_ ?_
   | refine LeO.bind ?_ (fun _ => ?_)
set_option maxHeartbeats 8000000 in
set_option maxRecDepth 100000 in
theorem spec_mvMirror.calls (k : Nat) (a0_0 : ByteArray) (a0_1 : Int) (r1 : ByteArray) (r2 : Int) (w : World) (h : spec_mvMirror.f k a0_0 a0_1 = some (r1, r2)) :
  Calls Tryz.prog 50 #[.agg #[.string a0_0, .int .i64 a0_1]] w fun e w' => e = .returned (.agg #[.string r1, .int .i64 r2]) ∧ Below w.heap.size w w' := by
 have hu38 := Tryz.underlying38
 have HB := Aside0.mk (Below.refl w.heap.size w)
 have H : (spec_mvMirror.l0 k (⟨#[]⟩ : ByteArray) 0 a0_0 a0_1) = some (r1, r2) := h
 clear h
 have H' := Aside0.mk H
 clear H
 go_enter Tryz.func50, Tryz.ntmps50
 go_wp2_with (first | ((with_reducible refine gate_dst (N := 1) rfl ?_); refine box_event ?hg (N := 1) ?hd (cs := #[.string a0_0, .int .i64 a0_1]) (t := 38) ?hr ?_; (case hd => rfl); (case hg => rfl); (case hr => first | (go_simp; done) | (go_simp; rfl)); intro gb180 hg w2 hbox hb; have n0_ := Aside0.mk (bt_ HB hb); have n1_ := Aside0.mk (hbox); have n2_ := gz_ hg HB; have n3_ := gz_ hg HB; clear HB; have HB := n0_; have BK180 := n1_; have GW180 := n2_; have GE180 := n3_; clear n0_ n1_ n2_ n3_; clear hb hbox hg) | ((with_reducible refine gate_dst (N := 2) rfl ?_); refine box_event ?hg (N := 2) ?hd (cs := #[.string (⟨#[]⟩ : ByteArray), .int .i64 0]) (t := 38) ?hr ?_; (case hd => rfl); (case hg => rfl); (case hr => first | (go_simp; done) | (go_simp; rfl)); intro gb181 hg w3 hbox hb; have n0_ := Aside0.mk (lb_ BK180 hb); have n1_ := Aside0.mk (below_step (bb1_ HB GE180) hb); have n2_ := Aside0.mk (hbox); have n3_ := gy_ hg (bb1_ HB GE180); have n4_ := gy_ hg (bb1_ HB GE180); have n5_ := nl_ hg BK180; have n6_ := ng_ hg BK180; clear BK180; clear HB; have BK180 := n0_; have HB := n1_; have BK181 := n2_; have GW181 := n3_; have GE181 := n4_; have NB180_181 := n5_; have NB181_180 := n6_; clear n0_ n1_ n2_ n3_ n4_ n5_ n6_; clear hb hbox hg))
 go_loopg [3, 4] k (fun kq v3 v4 w' => ∃ (x3_1 : ByteArray) (x4_1 : Int), v3 = .string x3_1 ∧ v4 = .int .i64 x4_1 ∧ Aside0 (spec_mvMirror.l0 kq x3_1 x4_1 a0_0 a0_1 = some (r1, r2)) ∧ Aside0 (kq ≤ k) ∧ Aside0 (w'.heap[gb180]? = some (.cells #[.string a0_0, .int .i64 a0_1] 38 (0, 0))) ∧ Aside0 (w'.heap[gb181]? = some (.cells #[.string (⟨#[]⟩ : ByteArray), .int .i64 0] 38 (0, 0))) ∧ Aside0 (Below w.heap.size w w'))
 case atStart => exact ⟨((⟨#[]⟩ : ByteArray)), (0), (by first | rfl | (simp; done) | (simp [*]; done)), (by first | rfl | (simp; done) | (simp [*]; done)), H', ⟨Nat.le_refl _⟩, ⟨by (with_reducible repeat (first | apply lN_ | apply lD_ | apply lA_)); exact BK180.out⟩, ⟨by (with_reducible repeat (first | apply lN_ | apply lD_ | apply lA_)); exact BK181.out⟩, ⟨bb2_ HB GE180 GE181⟩⟩
 case round =>
  clear H'
  try clear p2
  obtain ⟨x3_1, x4_1, rfl, rfl, HA, HK1, BK180, BK181, HB⟩ := hrel
  cases gk with
  | zero => exact absurd HA.out (by simp [spec_mvMirror.l0])
  | succ k1 =>
   have H := HA.out
   clear HA
   simp only [spec_mvMirror.l0] at H
   by_cases c4 : x4_1 < (a0_0.size : Int)
   ·rw [if_pos c4] at H
    have c4b0 : decide (x4_1 < (a0_0.size : Int)) = true := decide_eq_true c4
    clear c4
    by_cases c5 : 0 ≤ x4_1
    ·rw [if_pos c5] at H
     have c5b0 : decide (0 ≤ x4_1) = true := decide_eq_true c5
     clear c5
     by_cases c7 : (bt a0_0 x4_1) = 108
     ·rw [if_pos c7] at H
      have c7b0 : ((bt a0_0 x4_1) == 108) = true := beq_iff_eq.mpr c7
      have c7b1 : ((bt a0_0 x4_1) != 108) = false := bne_eq_false_iff_eq.mpr c7
      clear c7
      by_cases c8 : x3_1.size + 1 ≤ 9223372036854775807
      ·rw [if_pos c8] at H
       have c8b0 := eq_true c8
       have c8b1 : decide (x3_1.size + 1 ≤ 9223372036854775807) = true := decide_eq_true c8
       try have c8b2 : (9223372036854775807 < x3_1.size + 1) = False := eq_false (Nat.not_lt.2 c8)
       have H' := Aside0.mk H
       clear H
       have hnb9 := NB180_181.out
       have hnc9 := NB181_180.out
       have hcz10_0 := cz0_ BK180
       have hcz10_1 := cz1_ BK180
       have p6 : 0 ≤ (x4_1 : Int) := of_decide_eq_true as_
       have q6 : x4_1 < (a0_0.size : Int) := of_decide_eq_true as_
       have hx6 := bt_at a0_0 x4_1
       replace p6 := eq_true p6
       replace q6 := eq_true q6
       go_wp2
       go_roundg k1
       case measure => have := HK1.out; omega
       case rel => exact ⟨(x3_1 ++ (⟨#[114]⟩ : ByteArray)), (wrap64 (x4_1 + 1)), (by first | rfl | (simp; done) | (simp [*]; done)), (by first | rfl | (simp; done) | (simp [*]; done)), H', ⟨by have := HK1.out; omega⟩, ⟨by (with_reducible repeat (first | apply lN_ | apply lD_ | apply lA_)); exact BK180.out⟩, ⟨by (with_reducible repeat (first | apply lN_ | apply lD_ | apply lA_)); exact BK181.out⟩, ⟨bb2_ HB GE180 GE181⟩⟩
      ·rw [if_neg c8] at H
       exact absurd H (by simp)
     ·rw [if_neg c7] at H
      have c7b0 : ((bt a0_0 x4_1) == 108) = false := beq_eq_false_iff_ne.mpr c7
      have c7b1 : ((bt a0_0 x4_1) != 108) = true := bne_iff_ne.mpr c7
      by_cases c11 : (bt a0_0 x4_1) = 114
      ·rw [if_pos c11] at H
       have c11b0 : ((bt a0_0 x4_1) == 114) = true := beq_iff_eq.mpr c11
       have c11b1 : ((bt a0_0 x4_1) != 114) = false := bne_eq_false_iff_eq.mpr c11
       clear c11
       by_cases c12 : x3_1.size + 1 ≤ 9223372036854775807
       ·rw [if_pos c12] at H
        have c12b0 := eq_true c12
        have c12b1 : decide (x3_1.size + 1 ≤ 9223372036854775807) = true := decide_eq_true c12
        try have c12b2 : (9223372036854775807 < x3_1.size + 1) = False := eq_false (Nat.not_lt.2 c12)
        have H' := Aside0.mk H
        clear H
        have hnb13 := NB180_181.out
        have hnc13 := NB181_180.out
        have hcz14_0 := cz0_ BK180
        have hcz14_1 := cz1_ BK180
        have p6 : 0 ≤ (x4_1 : Int) := of_decide_eq_true as_
        have q6 : x4_1 < (a0_0.size : Int) := of_decide_eq_true as_
        have hx6 := bt_at a0_0 x4_1
        replace p6 := eq_true p6
        replace q6 := eq_true q6
        go_wp2
        go_roundg k1
        case measure => have := HK1.out; omega
        case rel => exact ⟨(x3_1 ++ (⟨#[108]⟩ : ByteArray)), (wrap64 (x4_1 + 1)), (by first | rfl | (simp; done) | (simp [*]; done)), (by first | rfl | (simp; done) | (simp [*]; done)), H', ⟨by have := HK1.out; omega⟩, ⟨by (with_reducible repeat (first | apply lN_ | apply lD_ | apply lA_)); exact BK180.out⟩, ⟨by (with_reducible repeat (first | apply lN_ | apply lD_ | apply lA_)); exact BK181.out⟩, ⟨bb2_ HB GE180 GE181⟩⟩
       ·rw [if_neg c12] at H
        exact absurd H (by simp)
      ·rw [if_neg c11] at H
       have c11b0 : ((bt a0_0 x4_1) == 114) = false := beq_eq_false_iff_ne.mpr c11
       have c11b1 : ((bt a0_0 x4_1) != 114) = true := bne_iff_ne.mpr c11
       have c15b0 := eq_true (of_decide_eq_true as_ : 0 ≤ x4_1)
       by_cases c16 : x4_1 ≤ (wrap64 (x4_1 + 1))
       ·rw [if_pos c16] at H
        have c16b0 := eq_true c16
        have c16b1 : decide (x4_1 ≤ (wrap64 (x4_1 + 1))) = true := decide_eq_true c16
        by_cases c17 : (wrap64 (x4_1 + 1)) ≤ (a0_0.size : Int)
        ·rw [if_pos c17] at H
         have c17b0 := eq_true c17
         have c17b1 : decide ((wrap64 (x4_1 + 1)) ≤ (a0_0.size : Int)) = true := decide_eq_true c17
         by_cases c18 : x3_1.size + (a0_0.extract (x4_1 : Int).toNat ((wrap64 (x4_1 + 1)) : Int).toNat).size ≤ 9223372036854775807
         ·rw [if_pos c18] at H
          have c18b0 := eq_true c18
          have c18b1 : decide (x3_1.size + (a0_0.extract (x4_1 : Int).toNat ((wrap64 (x4_1 + 1)) : Int).toNat).size ≤ 9223372036854775807) = true := decide_eq_true c18
          try have c18b2 : (9223372036854775807 < x3_1.size + (a0_0.extract (x4_1 : Int).toNat ((wrap64 (x4_1 + 1)) : Int).toNat).size) = False := eq_false (Nat.not_lt.2 c18)
          have H' := Aside0.mk H
          clear H
          have hnb19 := NB180_181.out
          have hnc19 := NB181_180.out
          have hcz20_0 := cz0_ BK180
          have hcz20_1 := cz1_ BK180
          have p6 : 0 ≤ (x4_1 : Int) := of_decide_eq_true as_
          have q6 : x4_1 < (a0_0.size : Int) := of_decide_eq_true as_
          have hx6 := bt_at a0_0 x4_1
          replace p6 := eq_true p6
          replace q6 := eq_true q6
          go_wp2
          go_roundg k1
          case measure => have := HK1.out; omega
          case rel => exact ⟨(x3_1 ++ (a0_0.extract (x4_1 : Int).toNat ((wrap64 (x4_1 + 1)) : Int).toNat)), (wrap64 (x4_1 + 1)), (by first | rfl | (simp; done) | (simp [*]; done)), (by first | rfl | (simp; done) | (simp [*]; done)), H', ⟨by have := HK1.out; omega⟩, ⟨by (with_reducible repeat (first | apply lN_ | apply lD_ | apply lA_)); exact BK180.out⟩, ⟨by (with_reducible repeat (first | apply lN_ | apply lD_ | apply lA_)); exact BK181.out⟩, ⟨bb2_ HB GE180 GE181⟩⟩
         ·rw [if_neg c18] at H
          exact absurd H (by simp)
        ·rw [if_neg c17] at H
         exact absurd H (by simp)
       ·rw [if_neg c16] at H
        exact absurd H (by simp)
    ·rw [if_neg c5] at H
     exact absurd H (by simp)
   ·rw [if_neg c4] at H
    have c4b0 : decide (x4_1 < (a0_0.size : Int)) = false := decide_eq_false c4
    clear c4
    simp only [Option.some.injEq, Prod.mk.injEq] at H
    obtain ⟨rfl, rfl⟩ := H
    have hnb21 := NB180_181.out
    have hnc21 := NB181_180.out
    have hcz22_0 := cz0_ BK180
    have hcz22_1 := cz1_ BK180
    have hcz23_0 := cz0_ BK181
    have hcz23_1 := cz1_ BK181
    have hfz23_0 := fz_ BK181 0
    have hfz23_1 := fz_ BK181 1
    go_wp2
    refine bodyPost_ret (results_cell_row rfl _ _ gb181 38 #[.string x3_1, .int .i64 a0_1] (0, 0) _ rfl (by (with_reducible repeat (first | apply lN_ | apply lD_ | apply lA_)); refine blk_put (cs := #[.string x3_1, .int .i64 0]) ?_ 1 _ rfl; (with_reducible repeat (first | apply lN_ | apply lD_ | apply lA_)); refine blk_put (cs := #[.string (⟨#[]⟩ : ByteArray), .int .i64 0]) ?_ 0 _ rfl; (with_reducible repeat (first | apply lN_ | apply lD_ | apply lA_)); exact BK181.out) Tryz.underlying38 rfl (by kernel_rfl)) rfl ?_
    exact ⟨by first | rfl | (simp [errW_none, errW_some] <;> rfl) | (simp [*, errW_none, errW_some] <;> rfl), bb2_ HB GE180 GE181⟩

end Go.Proofs.YtihibilkmjpmdaaGreatDoor.PA
