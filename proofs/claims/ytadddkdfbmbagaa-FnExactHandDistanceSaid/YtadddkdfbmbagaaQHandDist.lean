/- The plain law of HandDistance: the distances of shapes and of places are the same for the program and the reference. -/
import Derived.Test.YtadddkdfbmbagaaPAx6
import Derived.Test.YtadddkdfbmbagaaPAx8
import Derived.Test.YtadddkdfbmbagaaPAx5
import Derived.Test.YtadddkdfbmbagaaPAx7
import Derived.Test.YtadddkdfbmbagaaQHandOk
import Derived.Test.YtadddkdfbmbagaaQStep
namespace Go.Proofs.Ytadddkdfbmbagaa.PA
open Go.RowKit Go.Proofs.YtadddkdfbmbagaaW.PrintWords Go.Proofs.YtadddkdfbmbagaaW.PrintLast Go.Proofs.YtadddkdfbmbagaaW.PrintMore
set_option linter.unusedVariables false
set_option linter.unusedSimpArgs false
def dV (x y : Int) : Int := if x - y > y - x then x - y else y - x
theorem dV_in {x y : Int} (hx : -10 ≤ x ∧ x ≤ 10) (hy : -10 ≤ y ∧ y ≤ 10) : 0 ≤ dV x y ∧ dV x y ≤ 20 := by
  unfold dV
  split <;> omega
theorem abs_val {x y : Int} (hx : -10 ≤ x ∧ x ≤ 10) (hy : -10 ≤ y ∧ y ≤ 10) : spec_l1Abs.f (wrap64 (x - y)) = some (dV x y) := by
  unfold spec_l1Abs.f spec_l1Most.f dV
  rw [w64_i (x := x - y) (by omega) (by omega), w64_i (by omega) (by omega), show -(x - y) = y - x by omega]
  split <;> rfl
theorem dist_val {x y : Int} (hx : -10 ≤ x ∧ x ≤ 10) (hy : -10 ≤ y ∧ y ≤ 10) : impl_distance.f x y = some (dV x y) := by
  unfold impl_distance.f dV mx
  rw [w64_i (x := x - y) (by omega) (by omega), w64_i (by omega) (by omega)]
  repeat' split
  all_goals first | rfl | (congr 1; omega)
def finV (t t' : Int) (s s' : Bool) (S : Int) : Int := if t = t' then (if (s != s') = true then wrap64 (S + 1) else S) else (if (s != s') = true then wrap64 (wrap64 (S + 1) + 1) else wrap64 (S + 1))
section
variable (t i m r l : Int) (s : Bool) (t' i' m' r' l' : Int) (s' : Bool)
theorem spec_far_ev (h : shOK t i m r l s = true) (h' : shOK t' i' m' r' l' s' = true) : Ev (fun k => spec_shFar.f k t i m r l s t' i' m' r' l' s') (finV t t' s s' (dV i i' + dV m m' + dV r r' + dV l l')) := by
  obtain ⟨_, a1, a2, a3, a4⟩ := shOK_in h
  obtain ⟨_, b1, b2, b3, b4⟩ := shOK_in h'
  have d1 := dV_in (x := i) (y := i') (by omega) (by omega)
  have d2 := dV_in (x := m) (y := m') (by omega) (by omega)
  have d3 := dV_in (x := r) (y := r') (by omega) (by omega)
  have d4 := dV_in (x := l) (y := l') (by omega) (by omega)
  have v1 := abs_val (x := i) (y := i') (by omega) (by omega)
  have v2 := abs_val (x := m) (y := m') (by omega) (by omega)
  have v3 := abs_val (x := r) (y := r') (by omega) (by omega)
  have v4 := abs_val (x := l) (y := l') (by omega) (by omega)
  have s4 : ∀ S, Ev (fun k => spec_shFar.l0 k [i, m, r, l] [i', m', r', l'] S 4 4 t i m r l s t' i' m' r' l' s') (finV t t' s s' S) := fun S => Ev.step (f := fun _ => some (finV t t' s s' S)) (fun k => by
    simp only [spec_shFar.l0]
    rw [if_neg (by decide)]
    unfold finV
    repeat' split
    all_goals rfl) (Ev.now _)
  have st : ∀ (j : Nat) (x y : Int) (S : Int), j < 4 → rd [i, m, r, l] (j : Int) = x → rd [i', m', r', l'] (j : Int) = y → spec_l1Abs.f (wrap64 (x - y)) = some (dV x y) → 0 ≤ dV x y ∧ dV x y ≤ 20 → 0 ≤ S → S ≤ 1000 → Ev (fun k => spec_shFar.l0 k [i, m, r, l] [i', m', r', l'] (S + dV x y) 4 ((j + 1 : Nat) : Int) t i m r l s t' i' m' r' l' s') (finV t t' s s' (dV i i' + dV m m' + dV r r' + dV l l')) → Ev (fun k => spec_shFar.l0 k [i, m, r, l] [i', m', r', l'] S 4 (j : Int) t i m r l s t' i' m' r' l' s') (finV t t' s s' (dV i i' + dV m m' + dV r r' + dV l l')) := by
    intro j x y S hj hx hy hv hd h0 h1 hE
    refine Ev.step (fun k => ?_) hE
    simp only [spec_shFar.l0, hx, hy]
    rw [if_pos (by omega), if_pos (by omega), if_pos (by simp only [List.length_cons, List.length_nil]; omega), if_pos (by simp only [List.length_cons, List.length_nil]; omega), hv, Option.bind_some, w64_i (by omega) (by omega), w64_succ (by omega)]
  unfold spec_shFar.f
  simp only [spec_shFingers.f, Option.bind_some]
  refine st 0 i i' 0 (by omega) rfl rfl v1 d1 (by omega) (by omega) (st 1 m m' _ (by omega) rfl rfl v2 d2 (by omega) (by omega) (st 2 r r' _ (by omega) rfl rfl v3 d3 (by omega) (by omega) (st 3 l l' _ (by omega) rfl rfl v4 d4 (by omega) (by omega) ?_)))
  have e := s4 (0 + dV i i' + dV m m' + dV r r' + dV l l')
  rw [show (0 + dV i i' + dV m m' + dV r r' + dV l l') = dV i i' + dV m m' + dV r r' + dV l l' by omega] at e
  rw [show (0 + dV i i' + dV m m' + dV r r' + dV l l') = dV i i' + dV m m' + dV r r' + dV l l' by omega]
  exact e
theorem impl_far_ev (h : shOK t i m r l s = true) (h' : shOK t' i' m' r' l' s' = true) : Ev (fun k => impl_Shape_distance.f k t i m r l s t' i' m' r' l' s') (finV t t' s s' (dV i i' + dV m m' + dV r r' + dV l l')) := by
  obtain ⟨_, a1, a2, a3, a4⟩ := shOK_in h
  obtain ⟨_, b1, b2, b3, b4⟩ := shOK_in h'
  have d1 := dV_in (x := i) (y := i') (by omega) (by omega)
  have d2 := dV_in (x := m) (y := m') (by omega) (by omega)
  have d3 := dV_in (x := r) (y := r') (by omega) (by omega)
  have d4 := dV_in (x := l) (y := l') (by omega) (by omega)
  have v1 := dist_val (x := i) (y := i') (by omega) (by omega)
  have v2 := dist_val (x := m) (y := m') (by omega) (by omega)
  have v3 := dist_val (x := r) (y := r') (by omega) (by omega)
  have v4 := dist_val (x := l) (y := l') (by omega) (by omega)
  have s4 : ∀ S, Ev (fun k => impl_Shape_distance.l0 k S [i, m, r, l] 4 4 t i m r l s t' i' m' r' l' s') (finV t t' s s' S) := fun S => Ev.step (f := fun _ => some (finV t t' s s' S)) (fun k => by
    simp only [impl_Shape_distance.l0]
    rw [if_neg (by decide)]
    unfold finV
    repeat' split
    all_goals rfl) (Ev.now _)
  have st : ∀ (j : Nat) (x y : Int) (S : Int), j < 4 → rd [i, m, r, l] (j : Int) = x → rd [i', m', r', l'] (j : Int) = y → impl_distance.f x y = some (dV x y) → 0 ≤ dV x y ∧ dV x y ≤ 20 → 0 ≤ S → S ≤ 1000 → Ev (fun k => impl_Shape_distance.l0 k (S + dV x y) [i, m, r, l] 4 ((j + 1 : Nat) : Int) t i m r l s t' i' m' r' l' s') (finV t t' s s' (dV i i' + dV m m' + dV r r' + dV l l')) → Ev (fun k => impl_Shape_distance.l0 k S [i, m, r, l] 4 (j : Int) t i m r l s t' i' m' r' l' s') (finV t t' s s' (dV i i' + dV m m' + dV r r' + dV l l')) := by
    intro j x y S hj hx hy hv hd h0 h1 hE
    refine Ev.step (fun k => ?_) hE
    simp only [impl_Shape_distance.l0, impl_Shape_bends.f, Option.bind_some, hx, hy]
    rw [if_pos (by omega), if_pos (by omega), if_pos (by simp only [List.length_cons, List.length_nil]; omega), if_pos (by simp only [List.length_cons, List.length_nil]; omega), hv, Option.bind_some, w64_i (by omega) (by omega), w64_succ (by omega)]
  unfold impl_Shape_distance.f
  simp only [impl_Shape_bends.f, Option.bind_some]
  refine st 0 i i' 0 (by omega) rfl rfl v1 d1 (by omega) (by omega) (st 1 m m' _ (by omega) rfl rfl v2 d2 (by omega) (by omega) (st 2 r r' _ (by omega) rfl rfl v3 d3 (by omega) (by omega) (st 3 l l' _ (by omega) rfl rfl v4 d4 (by omega) (by omega) ?_)))
  have e := s4 (0 + dV i i' + dV m m' + dV r r' + dV l l')
  rw [show (0 + dV i i' + dV m m' + dV r r' + dV l l') = dV i i' + dV m m' + dV r r' + dV l l' by omega] at e
  rw [show (0 + dV i i' + dV m m' + dV r r' + dV l l') = dV i i' + dV m m' + dV r r' + dV l l' by omega]
  exact e
end
def plV (g d : Int) (c : Bool) (g' d' : Int) (c' : Bool) : Int :=
  if (c != c') = true then (if ((g == 0) != (g' == 0)) = true then wrap64 (wrap64 (dV d d' + 1) + 4) else wrap64 (wrap64 (dV d d' + 1) + dV g g')) else (if ((g == 0) != (g' == 0)) = true then wrap64 (dV d d' + 4) else wrap64 (dV d d' + dV g g'))
theorem plOK_in {g d : Int} {c : Bool} (h : plOK g d c = true) : (0 ≤ g ∧ g ≤ 9) ∧ (-1 ≤ d ∧ d ≤ 1) := by
  unfold plOK at h
  simp only [Bool.and_eq_true, decide_eq_true_eq] at h
  exact ⟨h.1, h.2.1⟩
theorem spec_pl {g d : Int} {c : Bool} {g' d' : Int} {c' : Bool} (h : plOK g d c = true) (h' : plOK g' d' c' = true) : spec_plFar.f g d c g' d' c' = some (plV g d c g' d' c') := by
  obtain ⟨a1, a2⟩ := plOK_in h
  obtain ⟨b1, b2⟩ := plOK_in h'
  unfold spec_plFar.f plV
  rw [abs_val (x := d) (y := d') (by omega) (by omega), abs_val (x := g) (y := g') (by omega) (by omega)]
  simp only [Option.bind_some]
  repeat' split
  all_goals rfl
theorem impl_pl {g d : Int} {c : Bool} {g' d' : Int} {c' : Bool} (h : plOK g d c = true) (h' : plOK g' d' c' = true) : impl_Place_distance.f g d c g' d' c' = some (plV g d c g' d' c') := by
  obtain ⟨a1, a2⟩ := plOK_in h
  obtain ⟨b1, b2⟩ := plOK_in h'
  unfold impl_Place_distance.f plV
  rw [dist_val (x := d) (y := d') (by omega) (by omega), dist_val (x := g) (y := g') (by omega) (by omega)]
  simp only [Option.bind_some]
  repeat' split
  all_goals rfl
theorem hdOK_parts {t i m r l : Int} {s : Bool} {p f g d : Int} {c : Bool} {b : ByteArray} {n : Int} (h : hdOK t i m r l s p f g d c b n = true) : shOK t i m r l s = true ∧ plOK g d c = true ∧ mvOK b n = true := by
  unfold hdOK at h
  simp only [Bool.and_eq_true] at h
  exact ⟨h.1, h.2.2.1, h.2.2.2⟩
theorem HandDistance_same (t i m r l : Int) (s : Bool) (p f g d : Int) (c : Bool) (b : ByteArray) (n : Int) (t' i' m' r' l' : Int) (s' : Bool) (p' f' g' d' : Int) (c' : Bool) (b' : ByteArray) (n' : Int) (hb : b.size ≤ 1048576) (hb' : b'.size ≤ 1048576) :
    ∃ v, Ev (fun k => spec_HandDistance.f k t i m r l s p f g d c b n t' i' m' r' l' s' p' f' g' d' c' b' n') v ∧ Ev (fun k => impl_HandDistance.f k t i m r l s p f g d c b n t' i' m' r' l' s' p' f' g' d' c' b' n') v := by
  have S1 := spec_hand_ev t i m r l s p f g d c b n hb
  have S2 := spec_hand_ev t' i' m' r' l' s' p' f' g' d' c' b' n' hb'
  have I1 := impl_hand_ev t i m r l s p f g d c b n hb
  have I2 := impl_hand_ev t' i' m' r' l' s' p' f' g' d' c' b' n' hb'
  by_cases h : hdOK t i m r l s p f g d c b n = true
  · rw [h] at S1 I1
    by_cases h' : hdOK t' i' m' r' l' s' p' f' g' d' c' b' n' = true
    · rw [h'] at S2 I2
      obtain ⟨q1, q2, q3⟩ := hdOK_parts h
      obtain ⟨q1', q2', q3'⟩ := hdOK_parts h'
      have z1 := mvSt_size q3
      have z2 := mvSt_size q3'
      have a1 := spec_mvAll_ev q3
      have a2 := impl_all q3
      have b1 := spec_mvAll_ev q3'
      have b2 := impl_all q3'
      have F1 := spec_far_ev t i m r l s t' i' m' r' l' s' q1 q1'
      have F2 := impl_far_ev t i m r l s t' i' m' r' l' s' q1 q1'
      have P1 := spec_pl q2 q2'
      have P2 := impl_pl q2 q2'
      generalize mvSt b n = A at z1 a1 a2
      generalize mvSt b' n' = B at z2 b1 b2
      generalize finV t t' s s' (dV i i' + dV m m' + dV r r' + dV l l') = X at F1 F2
      generalize plV g d c g' d' c' = Y at P1 P2
      obtain ⟨v, e1, e2⟩ := steps_same A B (by omega) (by omega)
      have hfin : ∃ u, ∀ k : Nat, (if p = p' then (if f = f' then (some (wrap64 ((wrap64 (X + Y)) + v))) else (some (wrap64 ((wrap64 ((wrap64 (X + Y)) + v)) + 1)))) else (if f = f' then (some (wrap64 ((wrap64 ((wrap64 (X + Y)) + v)) + 1))) else (some (wrap64 ((wrap64 ((wrap64 ((wrap64 (X + Y)) + v)) + 1)) + 1))))) = some u := by
        split <;> split <;> exact ⟨_, fun _ => rfl⟩
      obtain ⟨u, hu⟩ := hfin
      have E1 : Ev (fun k => spec_feHand.f k t i m r l s p f g d c b n t' i' m' r' l' s' p' f' g' d' c' b' n') u := by
        unfold spec_feHand.f
        refine Ev.bind F1 ?_
        simp only [P1, Option.bind_some]
        exact Ev.bind a1 (Ev.bind b1 (Ev.bind e1 (Ev.congr (f := fun _ => some u) hu (Ev.now _))))
      have E2 : Ev (fun k => impl_Hand_distance.f k t i m r l s p f g d c b n t' i' m' r' l' s' p' f' g' d' c' b' n') u := by
        unfold impl_Hand_distance.f
        refine Ev.bind F2 ?_
        refine Ev.congr (fun k => by rw [P2, Option.bind_some, a2, Option.bind_some, b2, Option.bind_some]) ?_
        exact Ev.bind e2 (Ev.congr (f := fun _ => some u) hu (Ev.now _))
      refine ⟨(u, true), ?_, ?_⟩
      · unfold spec_HandDistance.f
        refine Ev.bind S1 ?_
        simp only [if_true]
        refine Ev.bind S2 ?_
        simp only [if_true]
        exact Ev.bind E1 (Ev.now _)
      · unfold impl_HandDistance.f
        refine Ev.bind I1 ?_
        simp only [if_true]
        refine Ev.bind I2 ?_
        simp only [if_true]
        exact Ev.bind E2 (Ev.now _)
    · rw [Bool.eq_false_iff.mpr h'] at S2 I2
      refine ⟨(0, false), ?_, ?_⟩
      · unfold spec_HandDistance.f
        refine Ev.bind S1 ?_
        simp only [if_true]
        refine Ev.bind S2 ?_
        simp only [Bool.false_eq_true, if_false]
        exact Ev.now _
      · unfold impl_HandDistance.f
        refine Ev.bind I1 ?_
        simp only [if_true]
        refine Ev.bind I2 ?_
        simp only [Bool.false_eq_true, if_false]
        exact Ev.now _
  · rw [Bool.eq_false_iff.mpr h] at S1 I1
    refine ⟨(0, false), ?_, ?_⟩
    · unfold spec_HandDistance.f
      refine Ev.bind S1 ?_
      simp only [Bool.false_eq_true, if_false]
      exact Ev.now _
    · unfold impl_HandDistance.f
      refine Ev.bind I1 ?_
      simp only [Bool.false_eq_true, if_false]
      exact Ev.now _
end Go.Proofs.Ytadddkdfbmbagaa.PA
