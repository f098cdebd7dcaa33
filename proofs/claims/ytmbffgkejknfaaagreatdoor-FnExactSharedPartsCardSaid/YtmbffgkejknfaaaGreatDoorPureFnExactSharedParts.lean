/- The law FnExactSharedParts, plainly: for every sign the program's and the reference's functions return the same number and the same bool. -/
import Derived.Test.YtmbffgkejknfaaaGreatDoorWalkFnExactSharedParts
import Derived.Test.YtmbffgkejknfaaaGreatDoorPAx18
import Derived.Test.YtmbffgkejknfaaaGreatDoorQSigns
namespace Go.Proofs.YtmbffgkejknfaaaGreatDoor.PA
open Go.RowKit Go.Proofs.YtmbffgkejknfaaaGreatDoorW.PrintWords Go.Proofs.YtmbffgkejknfaaaGreatDoorW.PrintLast Go.Proofs.YtmbffgkejknfaaaGreatDoorW.PrintMore
section
variable (t i m r l : Int) (s : Bool) (p f g d : Int) (c : Bool) (b : ByteArray) (n : Int) (w : Bool) (t' i' m' r' l' : Int) (s' : Bool) (p' f' g' d' : Int) (c' : Bool) (b' : ByteArray) (n' : Int)
/-- The four parts, the same? -/
def smL : List Bool := [(t == t' && (i == i' && (m == m' && (r == r' && (l == l' && (s == s')))))), (p == p' && (f == f')), (g == g' && (d == d' && (c == c'))), (b.toList == b'.toList && (n == n'))]
/-- How many. -/
def shPts : Int := thBCnt (smL t i m r l s p f g d c b n t' i' m' r' l' s' p' f' g' d' c' b' n')
theorem cnt_from (L : List Bool) (hL : L.length ≤ 1000) (hw : w = true) : ∀ (e j : Nat) (x : Int), L.length - j = e → j ≤ L.length → 0 ≤ x → x ≤ (j : Int) →
    Ev (fun k => spec_SharedParts.l0 k x L (L.length : Int) (j : Int) t i m r l s p f g d c b n w t' i' m' r' l' s' p' f' g' d' c' b' n') (x + thBCnt (L.drop j), true)
  | 0, j, x, he, hj, h0, h1 => by
    rw [List.drop_eq_nil_of_le (by omega)]
    refine Ev.step (f := fun _ => some (x + thBCnt [], true)) (fun k => ?_) (Ev.now _)
    simp only [spec_SharedParts.l0]
    rw [if_neg (by omega)]
    simp [thBCnt]
  | e + 1, j, x, he, hj, h0, h1 => by
    have hlt : j < L.length := by omega
    have hwj : wrap64 ((j : Int) + 1) = ((j + 1 : Nat) : Int) := w64_succ (by omega)
    have hwx : wrap64 (x + 1) = x + 1 := w64_i (by omega) (by omega)
    have hr : rdOf false L (j : Int) = L[j] := by
      unfold rdOf
      rw [List.getD_eq_getElem?_getD]
      simp [hlt]
    have hc : thBCnt (L.drop j) = (if L[j] = true then 1 else 0) + thBCnt (L.drop (j + 1)) := by
      unfold thBCnt
      rw [List.drop_eq_getElem_cons hlt, List.filter_cons]
      cases L[j] <;> simp <;> omega
    rw [hc]
    cases hq : L[j]
    · have ih := cnt_from L hL hw e (j + 1) x (by omega) (by omega) h0 (by omega)
      simp only [Bool.false_eq_true, if_false, Int.zero_add]
      refine Ev.step (fun k => ?_) ih
      simp only [spec_SharedParts.l0, hwj, hr, hq, hw, if_true]
      rw [if_pos (by omega), if_pos (by omega), if_pos (by omega), if_neg (by decide)]
    · have ih := cnt_from L hL hw e (j + 1) (x + 1) (by omega) (by omega) (by omega) (by omega)
      simp only [if_true]
      rw [show x + (1 + thBCnt (L.drop (j + 1))) = x + 1 + thBCnt (L.drop (j + 1)) by omega]
      refine Ev.step (fun k => ?_) ih
      simp only [spec_SharedParts.l0, hwj, hwx, hr, hq, hw, if_true]
      rw [if_pos (by omega), if_pos (by omega), if_pos (by omega)]
theorem cnt_no (L : List Bool) (hL : L.length ≤ 1000) (hw : w = false) (x : Int) : ∀ (e j : Nat), L.length - j = e → j ≤ L.length →
    Ev (fun k => spec_SharedParts.l0 k x L (L.length : Int) (j : Int) t i m r l s p f g d c b n w t' i' m' r' l' s' p' f' g' d' c' b' n') (x, true)
  | 0, j, he, hj => by
    refine Ev.step (f := fun _ => some (x, true)) (fun k => ?_) (Ev.now _)
    simp only [spec_SharedParts.l0]
    rw [if_neg (by omega)]
  | e + 1, j, he, hj => by
    have hlt : j < L.length := by omega
    have hwj : wrap64 ((j : Int) + 1) = ((j + 1 : Nat) : Int) := w64_succ (by omega)
    refine Ev.step (fun k => ?_) (cnt_no L hL hw x e (j + 1) (by omega) (by omega))
    simp only [spec_SharedParts.l0, hwj, hw, Bool.false_eq_true, if_false]
    rw [if_pos (by omega), if_pos (by omega), if_pos (by omega)]
theorem spec_SharedParts_ev (hb : b.size ≤ 1048576) (hb' : b'.size ≤ 1048576) : Ev (fun k => spec_SharedParts.f k t i m r l s p f g d c b n w t' i' m' r' l' s' p' f' g' d' c' b' n') (if sgOK t i m r l s p f g d c b n w t' i' m' r' l' s' p' f' g' d' c' b' n' = true then (if w = true then (shPts t i m r l s p f g d c b n t' i' m' r' l' s' p' f' g' d' c' b' n', true) else (0, true)) else (0, false)) := by
  unfold spec_SharedParts.f
  refine Ev.bind (spec_good_ev t i m r l s p f g d c b n w t' i' m' r' l' s' p' f' g' d' c' b' n' hb hb') ?_
  cases h : sgOK t i m r l s p f g d c b n w t' i' m' r' l' s' p' f' g' d' c' b' n'
  · simp only [Bool.false_eq_true, if_false]; exact Ev.now _
  · simp only [if_true, Option.bind_some]
    by_cases hw : w = true
    · rw [if_pos hw]
      have := cnt_from t i m r l s p f g d c b n w t' i' m' r' l' s' p' f' g' d' c' b' n' (smL t i m r l s p f g d c b n t' i' m' r' l' s' p' f' g' d' c' b' n') (by simp [smL]) hw _ 0 0 rfl (Nat.zero_le _) (by omega) (by omega)
      rw [List.drop_zero, Int.zero_add] at this
      exact this
    · rw [if_neg hw]
      exact cnt_no t i m r l s p f g d c b n w t' i' m' r' l' s' p' f' g' d' c' b' n' (smL t i m r l s p f g d c b n t' i' m' r' l' s' p' f' g' d' c' b' n') (by simp [smL]) (by simpa using hw) 0 _ 0 rfl (Nat.zero_le _)
theorem impl_SharedParts_ev (hb : b.size ≤ 1048576) (hb' : b'.size ≤ 1048576) : Ev (fun k => impl_SharedParts.f k t i m r l s p f g d c b n w t' i' m' r' l' s' p' f' g' d' c' b' n') (if sgOK t i m r l s p f g d c b n w t' i' m' r' l' s' p' f' g' d' c' b' n' = true then (if w = true then (shPts t i m r l s p f g d c b n t' i' m' r' l' s' p' f' g' d' c' b' n', true) else (0, true)) else (0, false)) := by
  unfold impl_SharedParts.f
  refine Ev.bind (impl_sign_ev t i m r l s p f g d c b n w t' i' m' r' l' s' p' f' g' d' c' b' n' hb hb') ?_
  cases h : sgOK t i m r l s p f g d c b n w t' i' m' r' l' s' p' f' g' d' c' b' n'
  · simp only [Bool.false_eq_true, if_false]; exact Ev.now _
  · simp only [if_true]
    by_cases hw : w = true
    · rw [if_pos hw]
      have e : impl_Hand_common.f t i m r l s p f g d c b n t' i' m' r' l' s' p' f' g' d' c' b' n' = some (shPts t i m r l s p f g d c b n t' i' m' r' l' s' p' f' g' d' c' b' n') := by
        unfold impl_Hand_common.f impl_Hand_same.f
        simp only [Option.bind_some]
        rw [if_pos (by simp)]
        rfl
      simp only [if_pos hw, e, Option.bind_some]
      exact Ev.now _
    · simp only [if_neg hw]
      exact Ev.now _
end
end Go.Proofs.YtmbffgkejknfaaaGreatDoor.PA
namespace Go.Proofs.YtmbffgkejknfaaaGreatDoor.Pure
open Go.RowKit Go.Proofs.YtmbffgkejknfaaaGreatDoor.PA Go.Proofs.YtmbffgkejknfaaaGreatDoorW.PrintWords Go.Proofs.YtmbffgkejknfaaaGreatDoorW.PrintLast Go.Proofs.YtmbffgkejknfaaaGreatDoorW.PrintMore
theorem FnExactSharedParts : laws_FnExactSharedParts.Pure := by
  rintro ⟨⟨⟨t, i, m, r, l, s⟩, ⟨p, f⟩, ⟨g, d, c⟩, ⟨b, n⟩⟩, w, ⟨⟨t', i', m', r', l', s'⟩, ⟨p', f'⟩, ⟨g', d', c'⟩, ⟨b', n'⟩⟩⟩ hV
  have hb : b.size ≤ 9223372036854775807 := hV.1.2.2.2.1
  have hb' : b'.size ≤ 9223372036854775807 := hV.2.2.2.2.2.1
  refine Ev.rounds (g := fun k => laws_FnExactSharedParts.f k t i m r l s p f g d c b n w t' i' m' r' l' s' p' f' g' d' c' b' n') (r := true) ?_
  unfold laws_FnExactSharedParts.f
  obtain ⟨v, e, hv⟩ := sz_sign t i m r l s p f g d c b n w t' i' m' r' l' s' p' f' g' d' c' b' n' 1048576 (by omega) (by omega) hb hb'
  simp only [e, Option.bind_some, to_sign]
  rcases hv with hv | ⟨h0, _, h1, h2⟩
  · exact Ev.congr (f := fun _ => some true) (fun k => by rw [if_pos hv]) (Ev.now _)
  · simp only [if_neg (show ¬ v < 0 by omega)]
    refine Ev.bind (spec_SharedParts_ev t i m r l s p f g d c b n w t' i' m' r' l' s' p' f' g' d' c' b' n' h1 h2) (Ev.bind (impl_SharedParts_ev t i m r l s p f g d c b n w t' i' m' r' l' s' p' f' g' d' c' b' n' h1 h2) ?_)
    exact Ev.congr (f := fun _ => some true) (fun k => by simp) (Ev.now _)
end Go.Proofs.YtmbffgkejknfaaaGreatDoor.Pure
