/- The law FnExactCompoundTime, plainly. -/
import Derived.Test.YtojfncpjgpklhaaGreatDoorWalkFnExactCompoundTime
import Derived.Test.YtojfncpjgpklhaaGreatDoorPAx15
import Derived.Test.YtojfncpjgpklhaaGreatDoorPAx14
import Derived.Test.YtojfncpjgpklhaaGreatDoorQSigns
namespace Go.Proofs.YtojfncpjgpklhaaGreatDoor.PA
open Go.RowKit Go.Proofs.YtojfncpjgpklhaaGreatDoorW.PrintWords Go.Proofs.YtojfncpjgpklhaaGreatDoorW.PrintLast Go.Proofs.YtojfncpjgpklhaaGreatDoorW.PrintMore
set_option linter.unusedVariables false
set_option linter.unusedSimpArgs false
section
variable (t i m r l : Int) (s : Bool) (p f g d : Int) (c : Bool) (b : ByteArray) (n : Int) (w : Bool) (t' i' m' r' l' : Int) (s' : Bool) (p' f' g' d' : Int) (c' : Bool) (b' : ByteArray) (n' : Int)
/-- The steps of the hand that has more. -/
def sgSteps : Int := if ((mvSt b n).size : Int) > ((mvSt b' n').size : Int) then ((mvSt b n).size : Int) else ((mvSt b' n').size : Int)
theorem sg_mv (h : sgOK t i m r l s p f g d c b n w t' i' m' r' l' s' p' f' g' d' c' b' n' = true) : (b.size ≤ 6 ∧ 0 ≤ n ∧ n ≤ 3) ∧ (b'.size ≤ 6 ∧ 0 ≤ n' ∧ n' ≤ 3) := by
  unfold sgOK at h
  rw [Bool.and_eq_true] at h
  refine ⟨hdOK_mv h.1, ?_⟩
  have h2 := h.2
  cases w
  · rw [if_neg (by decide)] at h2
    unfold noHd at h2
    simp only [Bool.and_eq_true, beq_iff_eq] at h2
    obtain ⟨_, _, _, e, rfl⟩ := h2
    have : b'.size = 0 := by
      rw [← bs_list] at e
      show b'.data.size = 0
      rw [← Array.length_toList, e]; rfl
    exact ⟨by omega, by omega, by omega⟩
  · rw [if_pos rfl, Bool.and_eq_true] at h2
    exact hdOK_mv h2.1
theorem spec_steps_ev (h : sgOK t i m r l s p f g d c b n w t' i' m' r' l' s' p' f' g' d' c' b' n' = true) : Ev (fun k => spec_ruSteps.f k t i m r l s p f g d c b n w t' i' m' r' l' s' p' f' g' d' c' b' n') (sgSteps b n b' n') := by
  have hm := sg_mv t i m r l s p f g d c b n w t' i' m' r' l' s' p' f' g' d' c' b' n' h
  unfold spec_ruSteps.f
  refine Ev.bind (spec_all_ev hm.1.1 hm.1.2.1 hm.1.2.2) (Ev.bind (spec_all_ev hm.2.1 hm.2.2.1 hm.2.2.2) ?_)
  unfold spec_l1Most.f sgSteps
  split <;> exact Ev.now _
theorem impl_steps (h : sgOK t i m r l s p f g d c b n w t' i' m' r' l' s' p' f' g' d' c' b' n' = true) : impl_Sign_steps.f t i m r l s p f g d c b n w t' i' m' r' l' s' p' f' g' d' c' b' n' = some (sgSteps b n b' n') := by
  have hm := sg_mv t i m r l s p f g d c b n w t' i' m' r' l' s' p' f' g' d' c' b' n' h
  simp only [impl_Sign_steps.f, impl_all' hm.1.1 hm.1.2.1 hm.1.2.2, impl_all' hm.2.1 hm.2.2.1 hm.2.2.2, Option.bind_some]
  have e : mx ((mvSt b n).size : Int) ((mvSt b' n').size : Int) = sgSteps b n b' n' := by unfold mx sgSteps; split <;> split <;> omega
  rw [e]
end
section
variable (t i m r l : Int) (s : Bool) (p f g d : Int) (c : Bool) (b : ByteArray) (n : Int) (w : Bool) (t' i' m' r' l' : Int) (s' : Bool) (p' f' g' d' : Int) (c' : Bool) (b' : ByteArray) (n' : Int)
variable (T I M R L : Int) (S : Bool) (P F G D : Int) (C : Bool) (B : ByteArray) (N : Int) (W : Bool) (T' I' M' R' L' : Int) (S' : Bool) (P' F' G' D' : Int) (C' : Bool) (B' : ByteArray) (N' : Int)
/-- The gap. -/
def gapV (g d : Int) (c w : Bool) (G D : Int) (C W : Bool) : Int := if (w != W) = true then wrap64 (plV g d c G D C + 1) else plV g d c G D C
theorem sg_pl (h : sgOK t i m r l s p f g d c b n w t' i' m' r' l' s' p' f' g' d' c' b' n' = true) : plOK g d c = true := by
  unfold sgOK at h
  rw [Bool.and_eq_true] at h
  exact (hdOK_parts h.1).2.1
theorem spec_gap (h : sgOK t i m r l s p f g d c b n w t' i' m' r' l' s' p' f' g' d' c' b' n' = true) (h' : sgOK T I M R L S P F G D C B N W T' I' M' R' L' S' P' F' G' D' C' B' N' = true) : spec_cmGap.f t i m r l s p f g d c b n w t' i' m' r' l' s' p' f' g' d' c' b' n' T I M R L S P F G D C B N W T' I' M' R' L' S' P' F' G' D' C' B' N' = some (gapV g d c w G D C W) := by
  unfold spec_cmGap.f gapV
  rw [spec_pl (sg_pl t i m r l s p f g d c b n w t' i' m' r' l' s' p' f' g' d' c' b' n' h) (sg_pl T I M R L S P F G D C B N W T' I' M' R' L' S' P' F' G' D' C' B' N' h'), Option.bind_some]
  simp only [bne]
  obtain e1 | e1 := Bool.eq_false_or_eq_true (w == W) <;> simp only [e1, if_true, Bool.not_true, Bool.not_false, Bool.false_eq_true, if_false]
theorem impl_gap_v (h : sgOK t i m r l s p f g d c b n w t' i' m' r' l' s' p' f' g' d' c' b' n' = true) (h' : sgOK T I M R L S P F G D C B N W T' I' M' R' L' S' P' F' G' D' C' B' N' = true) : impl_gap.f t i m r l s p f g d c b n w t' i' m' r' l' s' p' f' g' d' c' b' n' T I M R L S P F G D C B N W T' I' M' R' L' S' P' F' G' D' C' B' N' = some (gapV g d c w G D C W) := by
  unfold impl_gap.f gapV
  rw [impl_pl (sg_pl t i m r l s p f g d c b n w t' i' m' r' l' s' p' f' g' d' c' b' n' h) (sg_pl T I M R L S P F G D C B N W T' I' M' R' L' S' P' F' G' D' C' B' N' h'), Option.bind_some]
  simp only [bne]
  obtain e1 | e1 := Bool.eq_false_or_eq_true (w == W) <;> simp only [e1, if_true, Bool.not_true, Bool.not_false, Bool.false_eq_true, if_false]
end
def stV (x : S44) : Int := sgSteps x.f0.f3.f0 x.f0.f3.f1 x.f2.f3.f0 x.f2.f3.f1
def gpV (x y : S44) : Int := gapV x.f0.f2.f0 x.f0.f2.f1 x.f0.f2.f2 x.f1 y.f0.f2.f0 y.f0.f2.f1 y.f0.f2.f2 y.f1
theorem st_in (x : S44) (h : sgGood x = true) : 0 ≤ stV x ∧ stV x ≤ 18 := by
  have hm := sg_mv (x.f0.f0.f0) (x.f0.f0.f1) (x.f0.f0.f2) (x.f0.f0.f3) (x.f0.f0.f4) (x.f0.f0.f5) (x.f0.f1.f0) (x.f0.f1.f1) (x.f0.f2.f0) (x.f0.f2.f1) (x.f0.f2.f2) (x.f0.f3.f0) (x.f0.f3.f1) (x.f1) (x.f2.f0.f0) (x.f2.f0.f1) (x.f2.f0.f2) (x.f2.f0.f3) (x.f2.f0.f4) (x.f2.f0.f5) (x.f2.f1.f0) (x.f2.f1.f1) (x.f2.f2.f0) (x.f2.f2.f1) (x.f2.f2.f2) (x.f2.f3.f0) (x.f2.f3.f1) h
  have q : ∀ {b : ByteArray} {n : Int}, b.size ≤ 6 ∧ 0 ≤ n ∧ n ≤ 3 → (mvSt b n).size ≤ 18 := fun {b n} h => by
    unfold mvSt; rw [rep_size]
    have : n.toNat ≤ 3 := by omega
    exact Nat.mul_le_mul this h.1
  have h1 := q hm.1
  have h2 := q hm.2
  unfold stV sgSteps
  split <;> omega
theorem gp_in (x y : S44) (h : sgGood x = true) (h' : sgGood y = true) : 0 ≤ gpV x y ∧ gpV x y ≤ 50 := by
  have a := plOK_in (sg_pl (x.f0.f0.f0) (x.f0.f0.f1) (x.f0.f0.f2) (x.f0.f0.f3) (x.f0.f0.f4) (x.f0.f0.f5) (x.f0.f1.f0) (x.f0.f1.f1) (x.f0.f2.f0) (x.f0.f2.f1) (x.f0.f2.f2) (x.f0.f3.f0) (x.f0.f3.f1) (x.f1) (x.f2.f0.f0) (x.f2.f0.f1) (x.f2.f0.f2) (x.f2.f0.f3) (x.f2.f0.f4) (x.f2.f0.f5) (x.f2.f1.f0) (x.f2.f1.f1) (x.f2.f2.f0) (x.f2.f2.f1) (x.f2.f2.f2) (x.f2.f3.f0) (x.f2.f3.f1) h)
  have b := plOK_in (sg_pl (y.f0.f0.f0) (y.f0.f0.f1) (y.f0.f0.f2) (y.f0.f0.f3) (y.f0.f0.f4) (y.f0.f0.f5) (y.f0.f1.f0) (y.f0.f1.f1) (y.f0.f2.f0) (y.f0.f2.f1) (y.f0.f2.f2) (y.f0.f3.f0) (y.f0.f3.f1) (y.f1) (y.f2.f0.f0) (y.f2.f0.f1) (y.f2.f0.f2) (y.f2.f0.f3) (y.f2.f0.f4) (y.f2.f0.f5) (y.f2.f1.f0) (y.f2.f1.f1) (y.f2.f2.f0) (y.f2.f2.f1) (y.f2.f2.f2) (y.f2.f3.f0) (y.f2.f3.f1) h')
  have d1 := dV_in (x := x.f0.f2.f1) (y := y.f0.f2.f1) (by omega) (by omega)
  have d2 := dV_in (x := x.f0.f2.f0) (y := y.f0.f2.f0) (by omega) (by omega)
  have p : 0 ≤ plV x.f0.f2.f0 x.f0.f2.f1 x.f0.f2.f2 y.f0.f2.f0 y.f0.f2.f1 y.f0.f2.f2 ∧ plV x.f0.f2.f0 x.f0.f2.f1 x.f0.f2.f2 y.f0.f2.f0 y.f0.f2.f1 y.f0.f2.f2 ≤ 41 := by
    unfold plV
    have e1 : wrap64 (dV x.f0.f2.f1 y.f0.f2.f1 + 1) = dV x.f0.f2.f1 y.f0.f2.f1 + 1 := w64_i (by omega) (by omega)
    rw [e1]
    split <;> split <;> (rw [w64_i (by omega) (by omega)]; omega)
  unfold gpV gapV
  split
  · rw [w64_i (by omega) (by omega)]; omega
  · omega
/-- The steps of all, and one more each. -/
def tS : List S44 → Int
  | [] => 0
  | x :: r => stV x + 1 + tS r
def tG (p : S44) : List S44 → Int
  | [] => 0
  | x :: r => gpV p x + tG x r
theorem spec_from (L : List S44) (hL : L.length ≤ 4) (hg : L.all sgGood = true) : ∀ (e j : Nat) (x : Int) (h0 : 1 ≤ j) (hj : j ≤ L.length), L.length - j = e → 0 ≤ x → x ≤ 100 * (j : Int) → Ev (fun k => spec_CompoundTime.l0 k L x L (L.length : Int) (j : Int)) (x + tS (L.drop j) + tG (L[j - 1]) (L.drop j), true)
  | 0, j, x, h0, hj, he, hx0, hx1 => by
    rw [List.drop_eq_nil_of_le (by omega)]
    refine Ev.step (f := fun _ => some (x + tS [] + tG L[j - 1] [], true)) (fun k => ?_) (Ev.now _)
    simp only [spec_CompoundTime.l0]
    rw [if_neg (by omega)]
    simp [tS, tG]
  | e + 1, j, x, h0, hj, he, hx0, hx1 => by
    have hlt : j < L.length := by omega
    have hw : wrap64 ((j : Int) + 1) = ((j + 1 : Nat) : Int) := w64_succ (by omega)
    have hw1 : wrap64 ((j : Int) - 1) = ((j - 1 : Nat) : Int) := by rw [w64_i (by omega) (by omega)]; omega
    have s1 := st_in L[j] (good_at hg j hlt)
    have g1 := gp_in L[j - 1] L[j] (good_at hg (j - 1) (by omega)) (good_at hg j hlt)
    have d1 : L.drop j = L[j] :: L.drop (j + 1) := List.drop_eq_getElem_cons hlt
    have eG := spec_gap (L[j - 1].f0.f0.f0) (L[j - 1].f0.f0.f1) (L[j - 1].f0.f0.f2) (L[j - 1].f0.f0.f3) (L[j - 1].f0.f0.f4) (L[j - 1].f0.f0.f5) (L[j - 1].f0.f1.f0) (L[j - 1].f0.f1.f1) (L[j - 1].f0.f2.f0) (L[j - 1].f0.f2.f1) (L[j - 1].f0.f2.f2) (L[j - 1].f0.f3.f0) (L[j - 1].f0.f3.f1) (L[j - 1].f1) (L[j - 1].f2.f0.f0) (L[j - 1].f2.f0.f1) (L[j - 1].f2.f0.f2) (L[j - 1].f2.f0.f3) (L[j - 1].f2.f0.f4) (L[j - 1].f2.f0.f5) (L[j - 1].f2.f1.f0) (L[j - 1].f2.f1.f1) (L[j - 1].f2.f2.f0) (L[j - 1].f2.f2.f1) (L[j - 1].f2.f2.f2) (L[j - 1].f2.f3.f0) (L[j - 1].f2.f3.f1) (L[j].f0.f0.f0) (L[j].f0.f0.f1) (L[j].f0.f0.f2) (L[j].f0.f0.f3) (L[j].f0.f0.f4) (L[j].f0.f0.f5) (L[j].f0.f1.f0) (L[j].f0.f1.f1) (L[j].f0.f2.f0) (L[j].f0.f2.f1) (L[j].f0.f2.f2) (L[j].f0.f3.f0) (L[j].f0.f3.f1) (L[j].f1) (L[j].f2.f0.f0) (L[j].f2.f0.f1) (L[j].f2.f0.f2) (L[j].f2.f0.f3) (L[j].f2.f0.f4) (L[j].f2.f0.f5) (L[j].f2.f1.f0) (L[j].f2.f1.f1) (L[j].f2.f2.f0) (L[j].f2.f2.f1) (L[j].f2.f2.f2) (L[j].f2.f3.f0) (L[j].f2.f3.f1) (good_at hg (j - 1) (by omega)) (good_at hg j hlt)
    have w1 : wrap64 (stV L[j] + 1) = stV L[j] + 1 := w64_i (by omega) (by omega)
    have w2 : wrap64 (x + (stV L[j] + 1)) = x + (stV L[j] + 1) := w64_i (by omega) (by omega)
    have w3 : wrap64 (x + (stV L[j] + 1) + gpV L[j - 1] L[j]) = x + (stV L[j] + 1) + gpV L[j - 1] L[j] := w64_i (by omega) (by omega)
    have ih := spec_from L hL hg e (j + 1) (x + (stV L[j] + 1) + gpV L[j - 1] L[j]) (by omega) (by omega) (by omega) (by omega) (by omega)
    have e2 : x + tS (L.drop j) + tG L[j - 1] (L.drop j) = x + (stV L[j] + 1) + gpV L[j - 1] L[j] + tS (L.drop (j + 1)) + tG L[j] (L.drop (j + 1)) := by
      rw [d1]; simp only [tS, tG]; omega
    rw [e2]
    refine Ev.step (f := fun k => (spec_ruSteps.f k (L[j].f0.f0.f0) (L[j].f0.f0.f1) (L[j].f0.f0.f2) (L[j].f0.f0.f3) (L[j].f0.f0.f4) (L[j].f0.f0.f5) (L[j].f0.f1.f0) (L[j].f0.f1.f1) (L[j].f0.f2.f0) (L[j].f0.f2.f1) (L[j].f0.f2.f2) (L[j].f0.f3.f0) (L[j].f0.f3.f1) (L[j].f1) (L[j].f2.f0.f0) (L[j].f2.f0.f1) (L[j].f2.f0.f2) (L[j].f2.f0.f3) (L[j].f2.f0.f4) (L[j].f2.f0.f5) (L[j].f2.f1.f0) (L[j].f2.f1.f1) (L[j].f2.f2.f0) (L[j].f2.f2.f1) (L[j].f2.f2.f2) (L[j].f2.f3.f0) (L[j].f2.f3.f1)).bind fun y => spec_CompoundTime.l0 k L (wrap64 (wrap64 (x + wrap64 (y + 1)) + gpV L[j - 1] L[j])) L (L.length : Int) ((j + 1 : Nat) : Int)) (fun k => ?_) (Ev.bind (r := _) (spec_steps_ev (L[j].f0.f0.f0) (L[j].f0.f0.f1) (L[j].f0.f0.f2) (L[j].f0.f0.f3) (L[j].f0.f0.f4) (L[j].f0.f0.f5) (L[j].f0.f1.f0) (L[j].f0.f1.f1) (L[j].f0.f2.f0) (L[j].f0.f2.f1) (L[j].f0.f2.f2) (L[j].f0.f3.f0) (L[j].f0.f3.f1) (L[j].f1) (L[j].f2.f0.f0) (L[j].f2.f0.f1) (L[j].f2.f0.f2) (L[j].f2.f0.f3) (L[j].f2.f0.f4) (L[j].f2.f0.f5) (L[j].f2.f1.f0) (L[j].f2.f1.f1) (L[j].f2.f2.f0) (L[j].f2.f2.f1) (L[j].f2.f2.f2) (L[j].f2.f3.f0) (L[j].f2.f3.f1) (good_at hg j hlt)) ?_)
    · simp only [spec_CompoundTime.l0, hw, hw1, rdA_at L j hlt, rdA_at L (j - 1) (by omega), eG, Option.bind_some]
      rw [if_pos (by omega), if_pos (by omega), if_pos (by omega)]
      refine congrArg _ (funext fun y => ?_)
      rw [if_pos (by omega), if_pos (by omega), if_pos (by omega)]
      rfl
    · show Ev (fun k => spec_CompoundTime.l0 k L (wrap64 (wrap64 (x + wrap64 (stV L[j] + 1)) + gpV L[j - 1] L[j])) L (L.length : Int) ((j + 1 : Nat) : Int)) _
      rw [w1, w2, w3]
      exact ih
theorem gaps_from (L : List S44) (hL : L.length ≤ 4) (hg : L.all sgGood = true) : ∀ (e j : Nat) (x : Int) (h0 : 1 ≤ j) (hj : j ≤ L.length), L.length - j = e → 0 ≤ x → x ≤ 100 * (j : Int) → Ev (fun k => impl_gapsIn.l0 k L x (j : Int)) (x + tG (L[j - 1]) (L.drop j)) ∧ 0 ≤ x + tG (L[j - 1]) (L.drop j) ∧ x + tG (L[j - 1]) (L.drop j) ≤ 100 * (L.length : Int)
  | 0, j, x, h0, hj, he, hx0, hx1 => by
    rw [List.drop_eq_nil_of_le (by omega)]
    refine ⟨Ev.step (f := fun _ => some (x + tG L[j - 1] [])) (fun k => ?_) (Ev.now _), ?_, ?_⟩
    · simp only [impl_gapsIn.l0]
      rw [if_neg (by omega)]
      simp [tG]
    · simp [tG]; omega
    · simp [tG]; omega
  | e + 1, j, x, h0, hj, he, hx0, hx1 => by
    have hlt : j < L.length := by omega
    have hw : wrap64 ((j : Int) + 1) = ((j + 1 : Nat) : Int) := w64_succ (by omega)
    have hw1 : wrap64 ((j : Int) - 1) = ((j - 1 : Nat) : Int) := by rw [w64_i (by omega) (by omega)]; omega
    have g1 := gp_in L[j - 1] L[j] (good_at hg (j - 1) (by omega)) (good_at hg j hlt)
    have d1 : L.drop j = L[j] :: L.drop (j + 1) := List.drop_eq_getElem_cons hlt
    have eG : impl_gap.f (L[j - 1].f0.f0.f0) (L[j - 1].f0.f0.f1) (L[j - 1].f0.f0.f2) (L[j - 1].f0.f0.f3) (L[j - 1].f0.f0.f4) (L[j - 1].f0.f0.f5) (L[j - 1].f0.f1.f0) (L[j - 1].f0.f1.f1) (L[j - 1].f0.f2.f0) (L[j - 1].f0.f2.f1) (L[j - 1].f0.f2.f2) (L[j - 1].f0.f3.f0) (L[j - 1].f0.f3.f1) (L[j - 1].f1) (L[j - 1].f2.f0.f0) (L[j - 1].f2.f0.f1) (L[j - 1].f2.f0.f2) (L[j - 1].f2.f0.f3) (L[j - 1].f2.f0.f4) (L[j - 1].f2.f0.f5) (L[j - 1].f2.f1.f0) (L[j - 1].f2.f1.f1) (L[j - 1].f2.f2.f0) (L[j - 1].f2.f2.f1) (L[j - 1].f2.f2.f2) (L[j - 1].f2.f3.f0) (L[j - 1].f2.f3.f1) (L[j].f0.f0.f0) (L[j].f0.f0.f1) (L[j].f0.f0.f2) (L[j].f0.f0.f3) (L[j].f0.f0.f4) (L[j].f0.f0.f5) (L[j].f0.f1.f0) (L[j].f0.f1.f1) (L[j].f0.f2.f0) (L[j].f0.f2.f1) (L[j].f0.f2.f2) (L[j].f0.f3.f0) (L[j].f0.f3.f1) (L[j].f1) (L[j].f2.f0.f0) (L[j].f2.f0.f1) (L[j].f2.f0.f2) (L[j].f2.f0.f3) (L[j].f2.f0.f4) (L[j].f2.f0.f5) (L[j].f2.f1.f0) (L[j].f2.f1.f1) (L[j].f2.f2.f0) (L[j].f2.f2.f1) (L[j].f2.f2.f2) (L[j].f2.f3.f0) (L[j].f2.f3.f1) = some (gpV L[j - 1] L[j]) := impl_gap_v (L[j - 1].f0.f0.f0) (L[j - 1].f0.f0.f1) (L[j - 1].f0.f0.f2) (L[j - 1].f0.f0.f3) (L[j - 1].f0.f0.f4) (L[j - 1].f0.f0.f5) (L[j - 1].f0.f1.f0) (L[j - 1].f0.f1.f1) (L[j - 1].f0.f2.f0) (L[j - 1].f0.f2.f1) (L[j - 1].f0.f2.f2) (L[j - 1].f0.f3.f0) (L[j - 1].f0.f3.f1) (L[j - 1].f1) (L[j - 1].f2.f0.f0) (L[j - 1].f2.f0.f1) (L[j - 1].f2.f0.f2) (L[j - 1].f2.f0.f3) (L[j - 1].f2.f0.f4) (L[j - 1].f2.f0.f5) (L[j - 1].f2.f1.f0) (L[j - 1].f2.f1.f1) (L[j - 1].f2.f2.f0) (L[j - 1].f2.f2.f1) (L[j - 1].f2.f2.f2) (L[j - 1].f2.f3.f0) (L[j - 1].f2.f3.f1) (L[j].f0.f0.f0) (L[j].f0.f0.f1) (L[j].f0.f0.f2) (L[j].f0.f0.f3) (L[j].f0.f0.f4) (L[j].f0.f0.f5) (L[j].f0.f1.f0) (L[j].f0.f1.f1) (L[j].f0.f2.f0) (L[j].f0.f2.f1) (L[j].f0.f2.f2) (L[j].f0.f3.f0) (L[j].f0.f3.f1) (L[j].f1) (L[j].f2.f0.f0) (L[j].f2.f0.f1) (L[j].f2.f0.f2) (L[j].f2.f0.f3) (L[j].f2.f0.f4) (L[j].f2.f0.f5) (L[j].f2.f1.f0) (L[j].f2.f1.f1) (L[j].f2.f2.f0) (L[j].f2.f2.f1) (L[j].f2.f2.f2) (L[j].f2.f3.f0) (L[j].f2.f3.f1) (good_at hg (j - 1) (by omega)) (good_at hg j hlt)
    have w3 : wrap64 (x + gpV L[j - 1] L[j]) = x + gpV L[j - 1] L[j] := w64_i (by omega) (by omega)
    obtain ⟨ih, i1, i2⟩ := gaps_from L hL hg e (j + 1) (x + gpV L[j - 1] L[j]) (by omega) (by omega) (by omega) (by omega) (by omega)
    have e2 : x + tG L[j - 1] (L.drop j) = x + gpV L[j - 1] L[j] + tG L[j] (L.drop (j + 1)) := by
      rw [d1]; simp only [tG]; omega
    rw [e2]
    refine ⟨Ev.step (fun k => ?_) ih, i1, i2⟩
    simp only [impl_gapsIn.l0, hw, hw1, rdA_at L j hlt, rdA_at L (j - 1) (by omega), eG, Option.bind_some, w3]
    rw [if_pos (by omega), if_pos (by omega), if_pos (by omega), if_pos (by omega), if_pos (by omega)]
theorem impl_from (L : List S44) (hL : L.length ≤ 4) (hg : L.all sgGood = true) : ∀ (e j : Nat) (x : Int), j ≤ L.length → L.length - j = e → 0 ≤ x → x ≤ 1000 + 100 * (j : Int) → Ev (fun k => impl_CompoundTime.l0 k x L (L.length : Int) (j : Int)) (x + tS (L.drop j), true)
  | 0, j, x, hj, he, hx0, hx1 => by
    rw [List.drop_eq_nil_of_le (by omega)]
    refine Ev.step (f := fun _ => some (x + tS [], true)) (fun k => ?_) (Ev.now _)
    simp only [impl_CompoundTime.l0]
    rw [if_neg (by omega)]
    simp [tS]
  | e + 1, j, x, hj, he, hx0, hx1 => by
    have hlt : j < L.length := by omega
    have hw : wrap64 ((j : Int) + 1) = ((j + 1 : Nat) : Int) := w64_succ (by omega)
    have s1 := st_in L[j] (good_at hg j hlt)
    have d1 : L.drop j = L[j] :: L.drop (j + 1) := List.drop_eq_getElem_cons hlt
    have w1 : wrap64 (stV L[j] + 1) = stV L[j] + 1 := w64_i (by omega) (by omega)
    have w2 : wrap64 (x + (stV L[j] + 1)) = x + (stV L[j] + 1) := w64_i (by omega) (by omega)
    have eS : impl_Sign_steps.f (L[j].f0.f0.f0) (L[j].f0.f0.f1) (L[j].f0.f0.f2) (L[j].f0.f0.f3) (L[j].f0.f0.f4) (L[j].f0.f0.f5) (L[j].f0.f1.f0) (L[j].f0.f1.f1) (L[j].f0.f2.f0) (L[j].f0.f2.f1) (L[j].f0.f2.f2) (L[j].f0.f3.f0) (L[j].f0.f3.f1) (L[j].f1) (L[j].f2.f0.f0) (L[j].f2.f0.f1) (L[j].f2.f0.f2) (L[j].f2.f0.f3) (L[j].f2.f0.f4) (L[j].f2.f0.f5) (L[j].f2.f1.f0) (L[j].f2.f1.f1) (L[j].f2.f2.f0) (L[j].f2.f2.f1) (L[j].f2.f2.f2) (L[j].f2.f3.f0) (L[j].f2.f3.f1) = some (stV L[j]) := impl_steps (L[j].f0.f0.f0) (L[j].f0.f0.f1) (L[j].f0.f0.f2) (L[j].f0.f0.f3) (L[j].f0.f0.f4) (L[j].f0.f0.f5) (L[j].f0.f1.f0) (L[j].f0.f1.f1) (L[j].f0.f2.f0) (L[j].f0.f2.f1) (L[j].f0.f2.f2) (L[j].f0.f3.f0) (L[j].f0.f3.f1) (L[j].f1) (L[j].f2.f0.f0) (L[j].f2.f0.f1) (L[j].f2.f0.f2) (L[j].f2.f0.f3) (L[j].f2.f0.f4) (L[j].f2.f0.f5) (L[j].f2.f1.f0) (L[j].f2.f1.f1) (L[j].f2.f2.f0) (L[j].f2.f2.f1) (L[j].f2.f2.f2) (L[j].f2.f3.f0) (L[j].f2.f3.f1) (good_at hg j hlt)
    have e2 : x + tS (L.drop j) = x + (stV L[j] + 1) + tS (L.drop (j + 1)) := by
      rw [d1]; simp only [tS]; omega
    rw [e2]
    refine Ev.step (fun k => ?_) (impl_from L hL hg e (j + 1) (x + (stV L[j] + 1)) (by omega) (by omega) (by omega) (by omega))
    simp only [impl_CompoundTime.l0, hw, rdA_at L j hlt, eS, Option.bind_some, w1, w2]
    rw [if_pos (by omega), if_pos (by omega), if_pos (by omega)]
theorem both_ev (L : List S44) (hL : L.length ≤ 1048576) (hz : ∀ x ∈ L, SzA x) : ∃ x, Ev (fun k => spec_CompoundTime.f k L) x ∧ Ev (fun k => impl_CompoundTime.f k L) x := by
  unfold spec_CompoundTime.f impl_CompoundTime.f
  have q1 : Ev (fun k => spec_cmGood.f k L) (decide (2 ≤ (L.length : Int) ∧ (L.length : Int) ≤ 4) && L.all sgGood) := by
    unfold spec_cmGood.f
    rw [in_val]
    simp only [Option.bind_some]
    by_cases h : 2 ≤ (L.length : Int) ∧ (L.length : Int) ≤ 4
    · simp only [decide_eq_true h, if_true, Bool.true_and]
      have := paList_ev L hL hz
      rw [decide_eq_true (show (L.length : Int) ≤ 20 by omega), Bool.and_true] at this
      exact Ev.bind this (Ev.now _)
    · simp only [decide_eq_false h, Bool.false_eq_true, if_false, Bool.false_and]; exact Ev.now _
  have q2 : Ev (fun k => impl_isMade.f k L) (decide (2 ≤ (L.length : Int) ∧ (L.length : Int) ≤ 4) && L.all sgGood) := by
    unfold impl_isMade.f
    by_cases h : (L.length : Int) ≥ 2
    · have := areSigns_ev L 4 hL hz
      rw [show (decide (2 ≤ (L.length : Int) ∧ (L.length : Int) ≤ 4) && L.all sgGood) = (L.all sgGood && decide ((L.length : Int) ≤ 4)) by rw [Bool.and_comm]; congr 1; simp only [decide_eq_decide]; omega]
      simp only [if_pos h]
      exact Ev.bind this (Ev.now _)
    · simp only [if_neg h]
      rw [decide_eq_false (by omega), Bool.false_and]; exact Ev.now _
  cases h : (decide (2 ≤ (L.length : Int) ∧ (L.length : Int) ≤ 4) && L.all sgGood)
  · rw [h] at q1 q2
    refine ⟨(0, false), Ev.bind q1 ?_, Ev.bind q2 ?_⟩ <;> (simp only [Bool.false_eq_true, if_false]; exact Ev.now _)
  · rw [h] at q1 q2
    rw [Bool.and_eq_true, decide_eq_true_eq] at h
    obtain ⟨⟨h2, h4⟩, hg⟩ := h
    have hlt : 0 < L.length := by omega
    have s1 := st_in L[0] (good_at hg 0 hlt)
    have w1 : wrap64 (stV L[0] + 1) = stV L[0] + 1 := w64_i (by omega) (by omega)
    have w2 : wrap64 (0 + (stV L[0] + 1)) = stV L[0] + 1 := by rw [w64_i (by omega) (by omega)]; omega
    have e1 := spec_from L (by omega) hg _ 1 (stV L[0] + 1) (by omega) (by omega) rfl (by omega) (by omega)
    obtain ⟨e2, e3, e4⟩ := gaps_from L (by omega) hg _ 1 0 (by omega) (by omega) rfl (by omega) (by omega)
    have e5 := impl_from L (by omega) hg _ 0 (0 + tG L[1 - 1] (L.drop 1)) (by omega) rfl e3 (by omega)
    have d1 : L.drop 0 = L[0] :: L.drop 1 := List.drop_eq_getElem_cons hlt
    refine ⟨_, Ev.bind q1 (Ev.congr (fun k => if_pos rfl) ?_), Ev.bind q2 (Ev.congr (fun k => if_pos rfl) (Ev.bind e2 e5))⟩
    have e6 : 0 + tG L[1 - 1] (L.drop 1) + tS (L.drop 0) = stV L[0] + 1 + tS (L.drop 1) + tG L[1 - 1] (L.drop 1) := by
      rw [d1]; simp only [tS]; omega
    rw [e6]
    refine Ev.step (f := fun k => (spec_ruSteps.f k (L[0].f0.f0.f0) (L[0].f0.f0.f1) (L[0].f0.f0.f2) (L[0].f0.f0.f3) (L[0].f0.f0.f4) (L[0].f0.f0.f5) (L[0].f0.f1.f0) (L[0].f0.f1.f1) (L[0].f0.f2.f0) (L[0].f0.f2.f1) (L[0].f0.f2.f2) (L[0].f0.f3.f0) (L[0].f0.f3.f1) (L[0].f1) (L[0].f2.f0.f0) (L[0].f2.f0.f1) (L[0].f2.f0.f2) (L[0].f2.f0.f3) (L[0].f2.f0.f4) (L[0].f2.f0.f5) (L[0].f2.f1.f0) (L[0].f2.f1.f1) (L[0].f2.f2.f0) (L[0].f2.f2.f1) (L[0].f2.f2.f2) (L[0].f2.f3.f0) (L[0].f2.f3.f1)).bind fun y => spec_CompoundTime.l0 k L (wrap64 (0 + wrap64 (y + 1))) L (L.length : Int) 1) (fun k => ?_) (Ev.bind (spec_steps_ev (L[0].f0.f0.f0) (L[0].f0.f0.f1) (L[0].f0.f0.f2) (L[0].f0.f0.f3) (L[0].f0.f0.f4) (L[0].f0.f0.f5) (L[0].f0.f1.f0) (L[0].f0.f1.f1) (L[0].f0.f2.f0) (L[0].f0.f2.f1) (L[0].f0.f2.f2) (L[0].f0.f3.f0) (L[0].f0.f3.f1) (L[0].f1) (L[0].f2.f0.f0) (L[0].f2.f0.f1) (L[0].f2.f0.f2) (L[0].f2.f0.f3) (L[0].f2.f0.f4) (L[0].f2.f0.f5) (L[0].f2.f1.f0) (L[0].f2.f1.f1) (L[0].f2.f2.f0) (L[0].f2.f2.f1) (L[0].f2.f2.f2) (L[0].f2.f3.f0) (L[0].f2.f3.f1) (good_at hg 0 hlt)) ?_)
    · have r0 := rdA_at L 0 hlt
      rw [show ((0 : Nat) : Int) = 0 from rfl] at r0
      simp only [spec_CompoundTime.l0, r0]
      rw [if_pos (by omega), if_pos (by omega), if_pos (by omega)]
      refine congrArg _ (funext fun y => ?_)
      rw [if_neg (by decide), show wrap64 ((0 : Int) + 1) = 1 from by kernel_rfl]
    · show Ev (fun k => spec_CompoundTime.l0 k L (wrap64 (0 + wrap64 (stV L[0] + 1))) L (L.length : Int) 1) _
      rw [w1, w2]
      exact e1
end Go.Proofs.YtojfncpjgpklhaaGreatDoor.PA
namespace Go.Proofs.YtojfncpjgpklhaaGreatDoor.Pure
open Go.RowKit Go.Proofs.YtojfncpjgpklhaaGreatDoor.PA Go.Proofs.YtojfncpjgpklhaaGreatDoorW.PrintWords Go.Proofs.YtojfncpjgpklhaaGreatDoorW.PrintLast Go.Proofs.YtojfncpjgpklhaaGreatDoorW.PrintMore
theorem FnExactCompoundTime : laws_FnExactCompoundTime.Pure := by
  rintro L ⟨hL, hV⟩
  refine Ev.rounds (g := fun k => laws_FnExactCompoundTime.f k L) (r := true) ?_
  unfold laws_FnExactCompoundTime.f
  obtain ⟨v, e, hv⟩ := szL L hL (fun x hx => ⟨(hV x hx).1.2.2.2.1, (hV x hx).2.2.2.2.2.1⟩) 1048576 (by decide) (by decide)
  refine Ev.bind e ?_
  rcases hv with hv | ⟨h0, _, h1, h2⟩
  · exact Ev.congr (f := fun _ => some true) (fun k => by rw [if_pos hv]) (Ev.now _)
  · simp only [if_neg (show ¬ v < 0 by omega)]
    have hl : (L.map asS).length ≤ 1048576 := by simpa using h1
    obtain ⟨x, hx, hy⟩ := both_ev (L.map asS) hl (sz_as L h2)
    refine Ev.bind (toL L h1) (Ev.bind hx (Ev.bind (toL L h1) (Ev.bind hy ?_)))
    simp only [if_true, beq_self_eq_true, Bool.not_true]
    refine Ev.step (f := fun k => (laws_toSignS.f k L).bind fun y => (laws_eqSignS.f k (L.map asS) y).bind fun z => if z = true then some true else some false) (fun k => by simp only [laws_FnExactCompoundTime.j0, Bool.false_eq_true, if_false]) ?_
    exact Ev.bind (toL L h1) (Ev.bind (eqL (L.map asS) hl) (Ev.congr (f := fun _ => some true) (fun k => if_pos rfl) (Ev.now _)))
end Go.Proofs.YtojfncpjgpklhaaGreatDoor.Pure
