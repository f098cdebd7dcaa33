/- The law FnExactIsReduced, plainly. -/
import Derived.Test.YtojfncpjgpklhaaGreatDoorWalkFnExactIsReduced
import Derived.Test.YtojfncpjgpklhaaGreatDoorPAx9
import Derived.Test.YtojfncpjgpklhaaGreatDoorPAx7
import Derived.Test.YtojfncpjgpklhaaGreatDoorPAx5
import Derived.Test.YtojfncpjgpklhaaGreatDoorPAx8
import Derived.Test.YtojfncpjgpklhaaGreatDoorPAx6
import Derived.Test.YtojfncpjgpklhaaGreatDoorQSigns
import Derived.Test.YtojfncpjgpklhaaGreatDoorQRoot
namespace Go.Proofs.YtojfncpjgpklhaaGreatDoor.PA
open Go.RowKit Go.Proofs.YtojfncpjgpklhaaGreatDoorW.PrintWords Go.Proofs.YtojfncpjgpklhaaGreatDoorW.PrintLast Go.Proofs.YtojfncpjgpklhaaGreatDoorW.PrintMore
set_option linter.unusedVariables false
set_option linter.unusedSimpArgs false
theorem bs_nil {b : ByteArray} (h : b.toList = []) : b = ⟨#[]⟩ := by
  rw [ByteArray.toList_eq] at h
  exact bs_ext (by rw [h])
/-- The shortest piece of all steps. -/
def rootV (b : ByteArray) (n : Int) : ByteArray := rootAt (mvSt b n) ((mvSt b n).size - 1) 1
theorem mvSt_len18 {b : ByteArray} {n : Int} (h : mvOK b n = true) : (mvSt b n).size ≤ 18 := by
  obtain ⟨h1, h2, h3, _⟩ := mvOK_parts h
  have : n.toNat * b.size ≤ 3 * 6 := Nat.mul_le_mul (by omega) h1
  unfold mvSt
  rw [rep_size]
  omega
theorem impl_red_ev {b : ByteArray} {n : Int} (h : mvOK b n = true) : Ev (fun k => impl_Move_reduced.f k b n) (rootV b n, 1) := by
  have hz := mvSt_len18 h
  unfold impl_Move_reduced.f
  simp only [impl_all h, Option.bind_some]
  by_cases h0 : (mvSt b n).size = 0
  · obtain ⟨h1, h2, h3, h4⟩ := mvOK_parts h
    have hs : b.size = 0 := by
      unfold mvSt at h0
      rw [rep_size] at h0
      rcases Nat.mul_eq_zero.1 h0 with e | e
      · omega
      · exact e
    have hb : b = ⟨#[]⟩ := by
      obtain ⟨⟨l⟩⟩ := b
      have : l.length = 0 := hs
      rw [List.eq_nil_of_length_eq_zero this]
    subst hb
    have hn := h4 nilL
    subst hn
    refine ⟨1, fun k hk => ?_⟩
    obtain ⟨k, rfl⟩ : ∃ m, k = m + 1 := ⟨k - 1, by omega⟩
    simp only [impl_Move_reduced.l0]
    rw [if_neg (by omega)]
    rfl
  · exact impl_root_from (mvSt b n) b n (by omega) _ 1 rfl (by omega) (by omega)
theorem spec_red_ev {b : ByteArray} {n : Int} (h : mvOK b n = true) : Ev (fun k => spec_cmRoot.f k (mvSt b n)) (rootV b n) :=
  spec_root_ev _ (by have := mvSt_len18 h; omega)
theorem hd_mv {t i m r l : Int} {s : Bool} {p f g d : Int} {c : Bool} {b : ByteArray} {n : Int} (h : hdOK t i m r l s p f g d c b n = true) : mvOK b n = true := by
  unfold hdOK at h
  simp only [Bool.and_eq_true] at h
  exact h.2.2.2
section
variable (t i m r l : Int) (s : Bool) (p f g d : Int) (c : Bool) (b : ByteArray) (n : Int) (w : Bool) (t' i' m' r' l' : Int) (s' : Bool) (p' f' g' d' : Int) (c' : Bool) (b' : ByteArray) (n' : Int)
/-- The sign, its movements made short. -/
def redV : SgT := if sgOK t i m r l s p f g d c b n w t' i' m' r' l' s' p' f' g' d' c' b' n' = true then (if w = true then (t, i, m, r, l, s, p, f, g, d, c, rootV b n, 1, true, t', i', m', r', l', s', p', f', g', d', c', rootV b' n', 1, true) else (t, i, m, r, l, s, p, f, g, d, c, rootV b n, 1, false, t', i', m', r', l', s', p', f', g', d', c', b', n', true)) else sgZ
theorem sg_mv (h : sgOK t i m r l s p f g d c b n w t' i' m' r' l' s' p' f' g' d' c' b' n' = true) : mvOK b n = true ∧ (w = true → mvOK b' n' = true) := by
  unfold sgOK at h
  rw [Bool.and_eq_true] at h
  refine ⟨hd_mv h.1, fun e => ?_⟩
  subst e
  have h2 := h.2
  simp only [if_true, Bool.and_eq_true] at h2
  exact hd_mv h2.1
end
/-- A reduced sign. -/
def rdS (x : S44) : S44 := if x.f1 = true then ⟨⟨⟨x.f0.f0.f0, x.f0.f0.f1, x.f0.f0.f2, x.f0.f0.f3, x.f0.f0.f4, x.f0.f0.f5⟩, ⟨x.f0.f1.f0, x.f0.f1.f1⟩, ⟨x.f0.f2.f0, x.f0.f2.f1, x.f0.f2.f2⟩, ⟨rootV x.f0.f3.f0 x.f0.f3.f1, 1⟩⟩, x.f1, ⟨⟨x.f2.f0.f0, x.f2.f0.f1, x.f2.f0.f2, x.f2.f0.f3, x.f2.f0.f4, x.f2.f0.f5⟩, ⟨x.f2.f1.f0, x.f2.f1.f1⟩, ⟨x.f2.f2.f0, x.f2.f2.f1, x.f2.f2.f2⟩, ⟨rootV x.f2.f3.f0 x.f2.f3.f1, 1⟩⟩⟩ else ⟨⟨⟨x.f0.f0.f0, x.f0.f0.f1, x.f0.f0.f2, x.f0.f0.f3, x.f0.f0.f4, x.f0.f0.f5⟩, ⟨x.f0.f1.f0, x.f0.f1.f1⟩, ⟨x.f0.f2.f0, x.f0.f2.f1, x.f0.f2.f2⟩, ⟨rootV x.f0.f3.f0 x.f0.f3.f1, 1⟩⟩, x.f1, ⟨⟨x.f2.f0.f0, x.f2.f0.f1, x.f2.f0.f2, x.f2.f0.f3, x.f2.f0.f4, x.f2.f0.f5⟩, ⟨x.f2.f1.f0, x.f2.f1.f1⟩, ⟨x.f2.f2.f0, x.f2.f2.f1, x.f2.f2.f2⟩, ⟨x.f2.f3.f0, x.f2.f3.f1⟩⟩⟩
def rdT (x : S44) : Int × Int × Int × Int × Int × Bool × Int × Int × Int × Int × Bool × ByteArray × Int × Bool × Int × Int × Int × Int × Int × Bool × Int × Int × Int × Int × Bool × ByteArray × Int := if x.f1 = true then (x.f0.f0.f0, x.f0.f0.f1, x.f0.f0.f2, x.f0.f0.f3, x.f0.f0.f4, x.f0.f0.f5, x.f0.f1.f0, x.f0.f1.f1, x.f0.f2.f0, x.f0.f2.f1, x.f0.f2.f2, rootV x.f0.f3.f0 x.f0.f3.f1, 1, x.f1, x.f2.f0.f0, x.f2.f0.f1, x.f2.f0.f2, x.f2.f0.f3, x.f2.f0.f4, x.f2.f0.f5, x.f2.f1.f0, x.f2.f1.f1, x.f2.f2.f0, x.f2.f2.f1, x.f2.f2.f2, rootV x.f2.f3.f0 x.f2.f3.f1, 1) else (x.f0.f0.f0, x.f0.f0.f1, x.f0.f0.f2, x.f0.f0.f3, x.f0.f0.f4, x.f0.f0.f5, x.f0.f1.f0, x.f0.f1.f1, x.f0.f2.f0, x.f0.f2.f1, x.f0.f2.f2, rootV x.f0.f3.f0 x.f0.f3.f1, 1, x.f1, x.f2.f0.f0, x.f2.f0.f1, x.f2.f0.f2, x.f2.f0.f3, x.f2.f0.f4, x.f2.f0.f5, x.f2.f1.f0, x.f2.f1.f1, x.f2.f2.f0, x.f2.f2.f1, x.f2.f2.f2, x.f2.f3.f0, x.f2.f3.f1)
theorem spec_rd (x : S44) (h : sgGood x = true) : Ev (fun k => spec_cmReduce.f k (x.f0.f0.f0) (x.f0.f0.f1) (x.f0.f0.f2) (x.f0.f0.f3) (x.f0.f0.f4) (x.f0.f0.f5) (x.f0.f1.f0) (x.f0.f1.f1) (x.f0.f2.f0) (x.f0.f2.f1) (x.f0.f2.f2) (x.f0.f3.f0) (x.f0.f3.f1) (x.f1) (x.f2.f0.f0) (x.f2.f0.f1) (x.f2.f0.f2) (x.f2.f0.f3) (x.f2.f0.f4) (x.f2.f0.f5) (x.f2.f1.f0) (x.f2.f1.f1) (x.f2.f2.f0) (x.f2.f2.f1) (x.f2.f2.f2) (x.f2.f3.f0) (x.f2.f3.f1)) (rdT x) := by
  obtain ⟨h1, h2⟩ := sg_mv (x.f0.f0.f0) (x.f0.f0.f1) (x.f0.f0.f2) (x.f0.f0.f3) (x.f0.f0.f4) (x.f0.f0.f5) (x.f0.f1.f0) (x.f0.f1.f1) (x.f0.f2.f0) (x.f0.f2.f1) (x.f0.f2.f2) (x.f0.f3.f0) (x.f0.f3.f1) (x.f1) (x.f2.f0.f0) (x.f2.f0.f1) (x.f2.f0.f2) (x.f2.f0.f3) (x.f2.f0.f4) (x.f2.f0.f5) (x.f2.f1.f0) (x.f2.f1.f1) (x.f2.f2.f0) (x.f2.f2.f1) (x.f2.f2.f2) (x.f2.f3.f0) (x.f2.f3.f1) h
  unfold spec_cmReduce.f rdT
  refine Ev.bind (spec_mvAll_ev h1) (Ev.bind (spec_red_ev h1) ?_)
  cases hw : x.f1
  · simp only [Bool.false_eq_true, if_false]; exact Ev.now _
  · simp only [if_true]
    exact Ev.bind (spec_mvAll_ev (h2 hw)) (Ev.bind (spec_red_ev (h2 hw)) (Ev.now _))
theorem impl_rd (x : S44) (h : sgGood x = true) : Ev (fun k => impl_Sign_reduced.f k (x.f0.f0.f0) (x.f0.f0.f1) (x.f0.f0.f2) (x.f0.f0.f3) (x.f0.f0.f4) (x.f0.f0.f5) (x.f0.f1.f0) (x.f0.f1.f1) (x.f0.f2.f0) (x.f0.f2.f1) (x.f0.f2.f2) (x.f0.f3.f0) (x.f0.f3.f1) (x.f1) (x.f2.f0.f0) (x.f2.f0.f1) (x.f2.f0.f2) (x.f2.f0.f3) (x.f2.f0.f4) (x.f2.f0.f5) (x.f2.f1.f0) (x.f2.f1.f1) (x.f2.f2.f0) (x.f2.f2.f1) (x.f2.f2.f2) (x.f2.f3.f0) (x.f2.f3.f1)) (rdT x) := by
  obtain ⟨h1, h2⟩ := sg_mv (x.f0.f0.f0) (x.f0.f0.f1) (x.f0.f0.f2) (x.f0.f0.f3) (x.f0.f0.f4) (x.f0.f0.f5) (x.f0.f1.f0) (x.f0.f1.f1) (x.f0.f2.f0) (x.f0.f2.f1) (x.f0.f2.f2) (x.f0.f3.f0) (x.f0.f3.f1) (x.f1) (x.f2.f0.f0) (x.f2.f0.f1) (x.f2.f0.f2) (x.f2.f0.f3) (x.f2.f0.f4) (x.f2.f0.f5) (x.f2.f1.f0) (x.f2.f1.f1) (x.f2.f2.f0) (x.f2.f2.f1) (x.f2.f2.f2) (x.f2.f3.f0) (x.f2.f3.f1) h
  unfold impl_Sign_reduced.f rdT
  refine Ev.bind (impl_red_ev h1) ?_
  cases hw : x.f1
  · simp only [Bool.false_eq_true, if_false]; exact Ev.now _
  · simp only [if_true]
    exact Ev.bind (impl_red_ev (h2 hw)) (Ev.now _)
/-- The same signs, one by one. -/
def sgE (a b : S44) : Bool := (((a.f0.f0.f0 == b.f0.f0.f0 && (a.f0.f0.f1 == b.f0.f0.f1 && (a.f0.f0.f2 == b.f0.f0.f2 && (a.f0.f0.f3 == b.f0.f0.f3 && (a.f0.f0.f4 == b.f0.f0.f4 && (a.f0.f0.f5 == b.f0.f0.f5)))))) && ((a.f0.f1.f0 == b.f0.f1.f0 && (a.f0.f1.f1 == b.f0.f1.f1)) && ((a.f0.f2.f0 == b.f0.f2.f0 && (a.f0.f2.f1 == b.f0.f2.f1 && (a.f0.f2.f2 == b.f0.f2.f2))) && (a.f0.f3.f0.toList == b.f0.f3.f0.toList && (a.f0.f3.f1 == b.f0.f3.f1))))) && (a.f1 == b.f1 && ((a.f2.f0.f0 == b.f2.f0.f0 && (a.f2.f0.f1 == b.f2.f0.f1 && (a.f2.f0.f2 == b.f2.f0.f2 && (a.f2.f0.f3 == b.f2.f0.f3 && (a.f2.f0.f4 == b.f2.f0.f4 && (a.f2.f0.f5 == b.f2.f0.f5)))))) && ((a.f2.f1.f0 == b.f2.f1.f0 && (a.f2.f1.f1 == b.f2.f1.f1)) && ((a.f2.f2.f0 == b.f2.f2.f0 && (a.f2.f2.f1 == b.f2.f2.f1 && (a.f2.f2.f2 == b.f2.f2.f2))) && (a.f2.f3.f0.toList == b.f2.f3.f0.toList && (a.f2.f3.f1 == b.f2.f3.f1)))))))
def eqF : List S44 → List S44 → Bool
  | a :: r, b :: s => sgE a b && eqF r s
  | _, _ => true
/-- All signs but the last, made short. -/
def redL (L : List S44) : List S44 := (L.take (L.length - 1)).map rdS ++ L.drop (L.length - 1)
theorem redL_len (L : List S44) : (redL L).length = L.length := by unfold redL; simp
theorem of_from (L : List S44) (hL : L.length ≤ 4) (hg : L.all sgGood = true) : ∀ (e j : Nat), L.length - 1 - j = e → j + 1 ≤ L.length → Ev (fun k => spec_cmOf.l0 k L ((L.take j).map rdS) L (L.length : Int) (j : Int)) (redL L)
  | 0, j, he, hj => by
    have hlt : j < L.length := by omega
    have hw : wrap64 ((j : Int) + 1) = ((j + 1 : Nat) : Int) := w64_succ (by omega)
    have hlen : ((L.take j).map rdS).length = j := by simp; omega
    refine Ev.step (f := fun k => spec_cmOf.l0 k L (redL L) L (L.length : Int) ((j + 1 : Nat) : Int)) (fun k => ?_) (Ev.step (f := fun _ => some (redL L)) (fun k => ?_) (Ev.now _))
    · simp only [spec_cmOf.l0, hw, rdA_at L j hlt, hlen]
      rw [if_pos (by omega), if_pos (by omega), if_pos (by omega), if_neg (by omega), if_pos (by omega)]
      have e1 : redL L = (L.take j).map rdS ++ [L[j]] := by
        unfold redL
        have : L.length - 1 = j := by omega
        rw [this, List.drop_eq_getElem_cons hlt, List.drop_eq_nil_of_le (by omega)]
      rw [e1]
    · simp only [spec_cmOf.l0]
      rw [if_neg (by omega)]
  | e + 1, j, he, hj => by
    have hlt : j < L.length := by omega
    have hw : wrap64 ((j : Int) + 1) = ((j + 1 : Nat) : Int) := w64_succ (by omega)
    have hlen : ((L.take j).map rdS).length = j := by simp; omega
    have ih := of_from L hL hg e (j + 1) (by omega) (by omega)
    rw [List.take_succ_eq_append_getElem hlt, List.map_append] at ih
    refine Ev.step (f := fun k => (spec_cmReduce.f k (L[j].f0.f0.f0) (L[j].f0.f0.f1) (L[j].f0.f0.f2) (L[j].f0.f0.f3) (L[j].f0.f0.f4) (L[j].f0.f0.f5) (L[j].f0.f1.f0) (L[j].f0.f1.f1) (L[j].f0.f2.f0) (L[j].f0.f2.f1) (L[j].f0.f2.f2) (L[j].f0.f3.f0) (L[j].f0.f3.f1) (L[j].f1) (L[j].f2.f0.f0) (L[j].f2.f0.f1) (L[j].f2.f0.f2) (L[j].f2.f0.f3) (L[j].f2.f0.f4) (L[j].f2.f0.f5) (L[j].f2.f1.f0) (L[j].f2.f1.f1) (L[j].f2.f2.f0) (L[j].f2.f2.f1) (L[j].f2.f2.f2) (L[j].f2.f3.f0) (L[j].f2.f3.f1)).bind fun y => spec_cmOf.l0 k L ((L.take j).map rdS ++ [(⟨⟨⟨y.1, y.2.1, y.2.2.1, y.2.2.2.1, y.2.2.2.2.1, y.2.2.2.2.2.1⟩, ⟨y.2.2.2.2.2.2.1, y.2.2.2.2.2.2.2.1⟩, ⟨y.2.2.2.2.2.2.2.2.1, y.2.2.2.2.2.2.2.2.2.1, y.2.2.2.2.2.2.2.2.2.2.1⟩, ⟨y.2.2.2.2.2.2.2.2.2.2.2.1, y.2.2.2.2.2.2.2.2.2.2.2.2.1⟩⟩, y.2.2.2.2.2.2.2.2.2.2.2.2.2.1, ⟨⟨y.2.2.2.2.2.2.2.2.2.2.2.2.2.2.1, y.2.2.2.2.2.2.2.2.2.2.2.2.2.2.2.1, y.2.2.2.2.2.2.2.2.2.2.2.2.2.2.2.2.1, y.2.2.2.2.2.2.2.2.2.2.2.2.2.2.2.2.2.1, y.2.2.2.2.2.2.2.2.2.2.2.2.2.2.2.2.2.2.1, y.2.2.2.2.2.2.2.2.2.2.2.2.2.2.2.2.2.2.2.1⟩, ⟨y.2.2.2.2.2.2.2.2.2.2.2.2.2.2.2.2.2.2.2.2.1, y.2.2.2.2.2.2.2.2.2.2.2.2.2.2.2.2.2.2.2.2.2.1⟩, ⟨y.2.2.2.2.2.2.2.2.2.2.2.2.2.2.2.2.2.2.2.2.2.2.1, y.2.2.2.2.2.2.2.2.2.2.2.2.2.2.2.2.2.2.2.2.2.2.2.1, y.2.2.2.2.2.2.2.2.2.2.2.2.2.2.2.2.2.2.2.2.2.2.2.2.1⟩, ⟨y.2.2.2.2.2.2.2.2.2.2.2.2.2.2.2.2.2.2.2.2.2.2.2.2.2.1, y.2.2.2.2.2.2.2.2.2.2.2.2.2.2.2.2.2.2.2.2.2.2.2.2.2.2⟩⟩⟩ : S44)]) L (L.length : Int) ((j + 1 : Nat) : Int)) (fun k => ?_) (Ev.bind (spec_rd L[j] (good_at hg j hlt)) ?_)
    · simp only [spec_cmOf.l0, hw, rdA_at L j hlt, hlen]
      rw [if_pos (by omega), if_pos (by omega), if_pos (by omega), if_pos (by omega)]
      refine congrArg _ (funext fun y => ?_)
      rw [if_pos (by omega)]
    · have e2 : (⟨⟨⟨(rdT L[j]).1, (rdT L[j]).2.1, (rdT L[j]).2.2.1, (rdT L[j]).2.2.2.1, (rdT L[j]).2.2.2.2.1, (rdT L[j]).2.2.2.2.2.1⟩, ⟨(rdT L[j]).2.2.2.2.2.2.1, (rdT L[j]).2.2.2.2.2.2.2.1⟩, ⟨(rdT L[j]).2.2.2.2.2.2.2.2.1, (rdT L[j]).2.2.2.2.2.2.2.2.2.1, (rdT L[j]).2.2.2.2.2.2.2.2.2.2.1⟩, ⟨(rdT L[j]).2.2.2.2.2.2.2.2.2.2.2.1, (rdT L[j]).2.2.2.2.2.2.2.2.2.2.2.2.1⟩⟩, (rdT L[j]).2.2.2.2.2.2.2.2.2.2.2.2.2.1, ⟨⟨(rdT L[j]).2.2.2.2.2.2.2.2.2.2.2.2.2.2.1, (rdT L[j]).2.2.2.2.2.2.2.2.2.2.2.2.2.2.2.1, (rdT L[j]).2.2.2.2.2.2.2.2.2.2.2.2.2.2.2.2.1, (rdT L[j]).2.2.2.2.2.2.2.2.2.2.2.2.2.2.2.2.2.1, (rdT L[j]).2.2.2.2.2.2.2.2.2.2.2.2.2.2.2.2.2.2.1, (rdT L[j]).2.2.2.2.2.2.2.2.2.2.2.2.2.2.2.2.2.2.2.1⟩, ⟨(rdT L[j]).2.2.2.2.2.2.2.2.2.2.2.2.2.2.2.2.2.2.2.2.1, (rdT L[j]).2.2.2.2.2.2.2.2.2.2.2.2.2.2.2.2.2.2.2.2.2.1⟩, ⟨(rdT L[j]).2.2.2.2.2.2.2.2.2.2.2.2.2.2.2.2.2.2.2.2.2.2.1, (rdT L[j]).2.2.2.2.2.2.2.2.2.2.2.2.2.2.2.2.2.2.2.2.2.2.2.1, (rdT L[j]).2.2.2.2.2.2.2.2.2.2.2.2.2.2.2.2.2.2.2.2.2.2.2.2.1⟩, ⟨(rdT L[j]).2.2.2.2.2.2.2.2.2.2.2.2.2.2.2.2.2.2.2.2.2.2.2.2.2.1, (rdT L[j]).2.2.2.2.2.2.2.2.2.2.2.2.2.2.2.2.2.2.2.2.2.2.2.2.2.2⟩⟩⟩ : S44) = rdS L[j] := by unfold rdT rdS; cases L[j].f1 <;> rfl
      rw [e2]
      exact ih
theorem comp_from (L : List S44) (hL : L.length ≤ 4) (hg : L.all sgGood = true) : ∀ (e j : Nat), L.length - 1 - j = e → j + 1 ≤ L.length → Ev (fun k => impl_compound.l0 k ((L.take j).map rdS ++ L.drop j) ((L.length - 1 : Nat) : Int) (j : Int)) (redL L)
  | 0, j, he, hj => by
    have : j = L.length - 1 := by omega
    subst this
    refine Ev.step (f := fun _ => some (redL L)) (fun k => ?_) (Ev.now _)
    simp only [impl_compound.l0]
    rw [if_neg (by omega)]
    rfl
  | e + 1, j, he, hj => by
    have hlt : j < L.length := by omega
    have hw : wrap64 ((j : Int) + 1) = ((j + 1 : Nat) : Int) := w64_succ (by omega)
    have hlen : ((L.take j).map rdS ++ L.drop j).length = L.length := by simp; omega
    have h1 : ((L.take j).map rdS).length = j := by simp; omega
    have hr : rd_T44 ((L.take j).map rdS ++ L.drop j) (j : Int) = L[j] := by
      rw [rdA_at _ j (by omega), List.getElem_append_right (by omega)]
      simp only [h1, Nat.sub_self, List.getElem_drop, Nat.add_zero]
    have hs : ((L.take j).map rdS ++ L.drop j).set j (rdS L[j]) = (L.take (j + 1)).map rdS ++ L.drop (j + 1) := by
      rw [List.set_append_right _ _ (by omega), h1, Nat.sub_self, List.drop_eq_getElem_cons hlt, List.set_cons_zero, List.take_succ_eq_append_getElem hlt, List.map_append, List.append_assoc]
      rfl
    have ih := comp_from L hL hg e (j + 1) (by omega) (by omega)
    rw [← hs] at ih
    refine Ev.step (f := fun k => (impl_Sign_reduced.f k (L[j].f0.f0.f0) (L[j].f0.f0.f1) (L[j].f0.f0.f2) (L[j].f0.f0.f3) (L[j].f0.f0.f4) (L[j].f0.f0.f5) (L[j].f0.f1.f0) (L[j].f0.f1.f1) (L[j].f0.f2.f0) (L[j].f0.f2.f1) (L[j].f0.f2.f2) (L[j].f0.f3.f0) (L[j].f0.f3.f1) (L[j].f1) (L[j].f2.f0.f0) (L[j].f2.f0.f1) (L[j].f2.f0.f2) (L[j].f2.f0.f3) (L[j].f2.f0.f4) (L[j].f2.f0.f5) (L[j].f2.f1.f0) (L[j].f2.f1.f1) (L[j].f2.f2.f0) (L[j].f2.f2.f1) (L[j].f2.f2.f2) (L[j].f2.f3.f0) (L[j].f2.f3.f1)).bind fun y => impl_compound.l0 k (((L.take j).map rdS ++ L.drop j).set j (⟨⟨⟨y.1, y.2.1, y.2.2.1, y.2.2.2.1, y.2.2.2.2.1, y.2.2.2.2.2.1⟩, ⟨y.2.2.2.2.2.2.1, y.2.2.2.2.2.2.2.1⟩, ⟨y.2.2.2.2.2.2.2.2.1, y.2.2.2.2.2.2.2.2.2.1, y.2.2.2.2.2.2.2.2.2.2.1⟩, ⟨y.2.2.2.2.2.2.2.2.2.2.2.1, y.2.2.2.2.2.2.2.2.2.2.2.2.1⟩⟩, y.2.2.2.2.2.2.2.2.2.2.2.2.2.1, ⟨⟨y.2.2.2.2.2.2.2.2.2.2.2.2.2.2.1, y.2.2.2.2.2.2.2.2.2.2.2.2.2.2.2.1, y.2.2.2.2.2.2.2.2.2.2.2.2.2.2.2.2.1, y.2.2.2.2.2.2.2.2.2.2.2.2.2.2.2.2.2.1, y.2.2.2.2.2.2.2.2.2.2.2.2.2.2.2.2.2.2.1, y.2.2.2.2.2.2.2.2.2.2.2.2.2.2.2.2.2.2.2.1⟩, ⟨y.2.2.2.2.2.2.2.2.2.2.2.2.2.2.2.2.2.2.2.2.1, y.2.2.2.2.2.2.2.2.2.2.2.2.2.2.2.2.2.2.2.2.2.1⟩, ⟨y.2.2.2.2.2.2.2.2.2.2.2.2.2.2.2.2.2.2.2.2.2.2.1, y.2.2.2.2.2.2.2.2.2.2.2.2.2.2.2.2.2.2.2.2.2.2.2.1, y.2.2.2.2.2.2.2.2.2.2.2.2.2.2.2.2.2.2.2.2.2.2.2.2.1⟩, ⟨y.2.2.2.2.2.2.2.2.2.2.2.2.2.2.2.2.2.2.2.2.2.2.2.2.2.1, y.2.2.2.2.2.2.2.2.2.2.2.2.2.2.2.2.2.2.2.2.2.2.2.2.2.2⟩⟩⟩ : S44)) ((L.length - 1 : Nat) : Int) ((j + 1 : Nat) : Int)) (fun k => ?_) (Ev.bind (impl_rd L[j] (good_at hg j hlt)) ?_)
    · simp only [impl_compound.l0, hw, hr, hlen, Int.toNat_natCast]
      rw [if_pos (by omega), if_pos (by omega), if_pos (by omega)]
      refine congrArg _ (funext fun y => ?_)
      rw [if_pos (by omega), if_pos (by omega)]
    · have e2 : (⟨⟨⟨(rdT L[j]).1, (rdT L[j]).2.1, (rdT L[j]).2.2.1, (rdT L[j]).2.2.2.1, (rdT L[j]).2.2.2.2.1, (rdT L[j]).2.2.2.2.2.1⟩, ⟨(rdT L[j]).2.2.2.2.2.2.1, (rdT L[j]).2.2.2.2.2.2.2.1⟩, ⟨(rdT L[j]).2.2.2.2.2.2.2.2.1, (rdT L[j]).2.2.2.2.2.2.2.2.2.1, (rdT L[j]).2.2.2.2.2.2.2.2.2.2.1⟩, ⟨(rdT L[j]).2.2.2.2.2.2.2.2.2.2.2.1, (rdT L[j]).2.2.2.2.2.2.2.2.2.2.2.2.1⟩⟩, (rdT L[j]).2.2.2.2.2.2.2.2.2.2.2.2.2.1, ⟨⟨(rdT L[j]).2.2.2.2.2.2.2.2.2.2.2.2.2.2.1, (rdT L[j]).2.2.2.2.2.2.2.2.2.2.2.2.2.2.2.1, (rdT L[j]).2.2.2.2.2.2.2.2.2.2.2.2.2.2.2.2.1, (rdT L[j]).2.2.2.2.2.2.2.2.2.2.2.2.2.2.2.2.2.1, (rdT L[j]).2.2.2.2.2.2.2.2.2.2.2.2.2.2.2.2.2.2.1, (rdT L[j]).2.2.2.2.2.2.2.2.2.2.2.2.2.2.2.2.2.2.2.1⟩, ⟨(rdT L[j]).2.2.2.2.2.2.2.2.2.2.2.2.2.2.2.2.2.2.2.2.1, (rdT L[j]).2.2.2.2.2.2.2.2.2.2.2.2.2.2.2.2.2.2.2.2.2.1⟩, ⟨(rdT L[j]).2.2.2.2.2.2.2.2.2.2.2.2.2.2.2.2.2.2.2.2.2.2.1, (rdT L[j]).2.2.2.2.2.2.2.2.2.2.2.2.2.2.2.2.2.2.2.2.2.2.2.1, (rdT L[j]).2.2.2.2.2.2.2.2.2.2.2.2.2.2.2.2.2.2.2.2.2.2.2.2.1⟩, ⟨(rdT L[j]).2.2.2.2.2.2.2.2.2.2.2.2.2.2.2.2.2.2.2.2.2.2.2.2.2.1, (rdT L[j]).2.2.2.2.2.2.2.2.2.2.2.2.2.2.2.2.2.2.2.2.2.2.2.2.2.2⟩⟩⟩ : S44) = rdS L[j] := by unfold rdT rdS; cases L[j].f1 <;> rfl
      rw [e2]
      exact ih
theorem same_from (R L : List S44) (hR : R.length = L.length) (hL : L.length ≤ 4) : ∀ (e j : Nat), L.length - j = e → j ≤ L.length → Ev (fun k => spec_cmSame.l0 k R L R (R.length : Int) (j : Int)) (eqF (R.drop j) (L.drop j))
  | 0, j, he, hj => by
    rw [List.drop_eq_nil_of_le (by omega)]
    refine Ev.step (f := fun _ => some true) (fun k => ?_) (Ev.now _)
    simp only [spec_cmSame.l0]
    rw [if_neg (by omega), hR, beq_self_eq_true]
  | e + 1, j, he, hj => by
    have hlt : j < L.length := by omega
    have hw : wrap64 ((j : Int) + 1) = ((j + 1 : Nat) : Int) := w64_succ (by omega)
    have ih := same_from R L hR hL e (j + 1) (by omega) (by omega)
    rw [List.drop_eq_getElem_cons (show j < R.length by omega), List.drop_eq_getElem_cons hlt]
    refine Ev.step (f := fun k => if sgE R[j] L[j] = true then spec_cmSame.l0 k R L R (R.length : Int) ((j + 1 : Nat) : Int) else some false) (fun k => ?_) ?_
    · simp only [spec_cmSame.l0, hw, rdA_at L j hlt, rdA_at R j (by omega)]
      rw [if_pos (by omega), if_pos (by omega), if_pos (by omega), if_pos (by omega), if_pos (by omega), if_pos (by omega)]
      rfl
    · show Ev _ (sgE R[j] L[j] && eqF (R.drop (j + 1)) (L.drop (j + 1)))
      cases sgE R[j] L[j]
      · simp only [Bool.false_eq_true, if_false, Bool.false_and]; exact Ev.now _
      · simp only [if_true, Bool.true_and]; exact ih
theorem equal_from (R L : List S44) (hR : R.length = L.length) (hL : L.length ≤ 4) : ∀ (e j : Nat), L.length - j = e → j ≤ L.length → Ev (fun k => impl_Sign_43.l0 k R L (R.length : Int) (j : Int)) (eqF (R.drop j) (L.drop j))
  | 0, j, he, hj => by
    rw [List.drop_eq_nil_of_le (by omega)]
    refine Ev.step (f := fun _ => some true) (fun k => ?_) (Ev.now _)
    simp only [impl_Sign_43.l0]
    rw [if_neg (by omega)]
  | e + 1, j, he, hj => by
    have hlt : j < L.length := by omega
    have hw : wrap64 ((j : Int) + 1) = ((j + 1 : Nat) : Int) := w64_succ (by omega)
    have ih := equal_from R L hR hL e (j + 1) (by omega) (by omega)
    rw [List.drop_eq_getElem_cons (show j < R.length by omega), List.drop_eq_getElem_cons hlt]
    refine Ev.step (f := fun k => if sgE R[j] L[j] = true then impl_Sign_43.l0 k R L (R.length : Int) ((j + 1 : Nat) : Int) else some false) (fun k => ?_) ?_
    · simp only [impl_Sign_43.l0, hw, rdA_at L j hlt, rdA_at R j (by omega)]
      rw [if_pos (by omega), if_pos (by omega), if_pos (by omega), if_pos (by omega), if_pos (by omega)]
      rfl
    · show Ev _ (sgE R[j] L[j] && eqF (R.drop (j + 1)) (L.drop (j + 1)))
      cases sgE R[j] L[j]
      · simp only [Bool.false_eq_true, if_false, Bool.false_and]; exact Ev.now _
      · simp only [if_true, Bool.true_and]; exact ih
theorem both_ev (L : List S44) (hL : L.length ≤ 1048576) (hz : ∀ x ∈ L, SzA x) : ∃ x, Ev (fun k => spec_IsReduced.f k L) x ∧ Ev (fun k => impl_IsReduced.f k L) x := by
  unfold spec_IsReduced.f impl_IsReduced.f
  have q1 : Ev (fun k => spec_cmGood.f k L) (decide (2 ≤ (L.length : Int) ∧ (L.length : Int) ≤ 4) && L.all sgGood) := by
    unfold spec_cmGood.f
    rw [in_val]
    simp only [Option.bind_some]
    by_cases h : 2 ≤ (L.length : Int) ∧ (L.length : Int) ≤ 4
    · simp only [decide_eq_true h, if_true, Bool.true_and]
      have := paList_ev L hL hz
      rw [decide_eq_true (show (L.length : Int) ≤ 20 by omega), Bool.and_true] at this
      exact Ev.bind this (Ev.now _)
    · simp only [decide_eq_false h, Bool.false_eq_true, if_false, Bool.false_and]; exact Ev.now _
  have q2 : Ev (fun k => impl_isMade.f k L) (decide (2 ≤ (L.length : Int) ∧ (L.length : Int) ≤ 4) && L.all sgGood) := by
    unfold impl_isMade.f
    by_cases h : (L.length : Int) ≥ 2
    · have := areSigns_ev L 4 hL hz
      rw [show (decide (2 ≤ (L.length : Int) ∧ (L.length : Int) ≤ 4) && L.all sgGood) = (L.all sgGood && decide ((L.length : Int) ≤ 4)) by rw [Bool.and_comm]; congr 1; simp only [decide_eq_decide]; omega]
      simp only [if_pos h]
      exact Ev.bind this (Ev.now _)
    · simp only [if_neg h]
      rw [decide_eq_false (by omega), Bool.false_and]; exact Ev.now _
  cases h : (decide (2 ≤ (L.length : Int) ∧ (L.length : Int) ≤ 4) && L.all sgGood)
  · rw [h] at q1 q2
    refine ⟨(false, false), Ev.bind q1 ?_, Ev.bind q2 ?_⟩ <;> (simp only [Bool.false_eq_true, if_false]; exact Ev.now _)
  · rw [h] at q1 q2
    rw [Bool.and_eq_true, decide_eq_true_eq] at h
    obtain ⟨⟨h2, h4⟩, hg⟩ := h
    have hlen := redL_len L
    have e1 : Ev (fun k => spec_cmOf.f k L) (redL L) := by
      have := of_from L (by omega) hg _ 0 rfl (by omega)
      exact this
    have e2 : Ev (fun k => impl_compound.f k L) (redL L) := by
      have := comp_from L (by omega) hg _ 0 rfl (by omega)
      unfold impl_compound.f
      have hc : impl_Sign_79.f L = some L := by
        unfold impl_Sign_79.f
        rw [if_neg (by omega), if_pos (by omega)]
      have hw1 : wrap64 ((L.length : Int) - 1) = ((L.length - 1 : Nat) : Int) := by rw [w64_i (by omega) (by omega)]; omega
      rw [hc]
      simp only [Option.bind_some, hw1]
      exact this
    have e3 := same_from (redL L) L hlen (by omega) _ 0 rfl (Nat.zero_le _)
    have e4 := equal_from (redL L) L hlen (by omega) _ 0 rfl (Nat.zero_le _)
    rw [List.drop_zero, List.drop_zero] at e3 e4
    refine ⟨(eqF (redL L) L, true), Ev.bind q1 ?_, Ev.bind q2 ?_⟩ <;> simp only [if_true]
    · exact Ev.bind e1 (Ev.bind e3 (Ev.now _))
    · refine Ev.bind e2 (Ev.bind ?_ (Ev.now _))
      unfold impl_Sign_43.f
      exact Ev.congr (fun k => if_pos (by rw [hlen])) e4
end Go.Proofs.YtojfncpjgpklhaaGreatDoor.PA
namespace Go.Proofs.YtojfncpjgpklhaaGreatDoor.Pure
open Go.RowKit Go.Proofs.YtojfncpjgpklhaaGreatDoor.PA Go.Proofs.YtojfncpjgpklhaaGreatDoorW.PrintWords Go.Proofs.YtojfncpjgpklhaaGreatDoorW.PrintLast Go.Proofs.YtojfncpjgpklhaaGreatDoorW.PrintMore
theorem FnExactIsReduced : laws_FnExactIsReduced.Pure := by
  rintro L ⟨hL, hV⟩
  refine Ev.rounds (g := fun k => laws_FnExactIsReduced.f k L) (r := true) ?_
  unfold laws_FnExactIsReduced.f
  obtain ⟨v, e, hv⟩ := szL L hL (fun x hx => ⟨(hV x hx).1.2.2.2.1, (hV x hx).2.2.2.2.2.1⟩) 1048576 (by decide) (by decide)
  refine Ev.bind e ?_
  rcases hv with hv | ⟨h0, _, h1, h2⟩
  · exact Ev.congr (f := fun _ => some true) (fun k => by rw [if_pos hv]) (Ev.now _)
  · simp only [if_neg (show ¬ v < 0 by omega)]
    have hl : (L.map asS).length ≤ 1048576 := by simpa using h1
    obtain ⟨x, hx, hy⟩ := both_ev (L.map asS) hl (sz_as L h2)
    refine Ev.bind (toL L h1) (Ev.bind hx (Ev.bind (toL L h1) (Ev.bind hy ?_)))
    simp only [if_true, beq_self_eq_true, Bool.not_true]
    refine Ev.step (f := fun k => (laws_toSignS.f k L).bind fun y => (laws_eqSignS.f k (L.map asS) y).bind fun z => if z = true then some true else some false) (fun k => by simp only [laws_FnExactIsReduced.j0, Bool.false_eq_true, if_false]) ?_
    exact Ev.bind (toL L h1) (Ev.bind (eqL (L.map asS) hl) (Ev.congr (f := fun _ => some true) (fun k => if_pos rfl) (Ev.now _)))
end Go.Proofs.YtojfncpjgpklhaaGreatDoor.Pure
