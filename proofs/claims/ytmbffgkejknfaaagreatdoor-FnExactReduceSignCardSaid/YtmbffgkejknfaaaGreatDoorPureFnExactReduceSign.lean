/- The law FnExactReduceSign, plainly: the program's and the reference's functions return the same sign and the same bool. -/
import Derived.Test.YtmbffgkejknfaaaGreatDoorWalkFnExactReduceSign
import Derived.Test.YtmbffgkejknfaaaGreatDoorPAx14
import Derived.Test.YtmbffgkejknfaaaGreatDoorPAx13
import Derived.Test.YtmbffgkejknfaaaGreatDoorQSigns
import Derived.Test.YtmbffgkejknfaaaGreatDoorQEqSign
import Derived.Test.YtmbffgkejknfaaaGreatDoorQRoot
namespace Go.Proofs.YtmbffgkejknfaaaGreatDoor.PA
open Go.RowKit Go.Proofs.YtmbffgkejknfaaaGreatDoorW.PrintWords Go.Proofs.YtmbffgkejknfaaaGreatDoorW.PrintLast Go.Proofs.YtmbffgkejknfaaaGreatDoorW.PrintMore
theorem bs_nil {b : ByteArray} (h : b.toList = []) : b = ⟨#[]⟩ := by
  rw [ByteArray.toList_eq] at h
  exact bs_ext (by rw [h])
/-- The shortest piece of all steps. -/
def rootV (b : ByteArray) (n : Int) : ByteArray := rootAt (mvSt b n) ((mvSt b n).size - 1) 1
theorem mvSt_len18 {b : ByteArray} {n : Int} (h : mvOK b n = true) : (mvSt b n).size ≤ 18 := by
  obtain ⟨h1, h2, h3, _⟩ := mvOK_parts h
  have : n.toNat * b.size ≤ 3 * 6 := Nat.mul_le_mul (by omega) h1
  unfold mvSt
  rw [rep_size]
  omega
theorem impl_red_ev {b : ByteArray} {n : Int} (h : mvOK b n = true) : Ev (fun k => impl_Move_reduced.f k b n) (rootV b n, 1) := by
  have hz := mvSt_len18 h
  unfold impl_Move_reduced.f
  simp only [impl_all h, Option.bind_some]
  by_cases h0 : (mvSt b n).size = 0
  · obtain ⟨h1, h2, h3, h4⟩ := mvOK_parts h
    have hs : b.size = 0 := by
      unfold mvSt at h0
      rw [rep_size] at h0
      rcases Nat.mul_eq_zero.1 h0 with e | e
      · omega
      · exact e
    have hb : b = ⟨#[]⟩ := by
      obtain ⟨⟨l⟩⟩ := b
      have : l.length = 0 := hs
      rw [List.eq_nil_of_length_eq_zero this]
    subst hb
    have hn := h4 nilL
    subst hn
    refine ⟨1, fun k hk => ?_⟩
    obtain ⟨k, rfl⟩ : ∃ m, k = m + 1 := ⟨k - 1, by omega⟩
    simp only [impl_Move_reduced.l0]
    rw [if_neg (by omega)]
    rfl
  · exact impl_root_from (mvSt b n) b n (by omega) _ 1 rfl (by omega) (by omega)
theorem spec_red_ev {b : ByteArray} {n : Int} (h : mvOK b n = true) : Ev (fun k => spec_cmRoot.f k (mvSt b n)) (rootV b n) :=
  spec_root_ev _ (by have := mvSt_len18 h; omega)
theorem hd_mv {t i m r l : Int} {s : Bool} {p f g d : Int} {c : Bool} {b : ByteArray} {n : Int} (h : hdOK t i m r l s p f g d c b n = true) : mvOK b n = true := by
  unfold hdOK at h
  simp only [Bool.and_eq_true] at h
  exact h.2.2.2
section
variable (t i m r l : Int) (s : Bool) (p f g d : Int) (c : Bool) (b : ByteArray) (n : Int) (w : Bool) (t' i' m' r' l' : Int) (s' : Bool) (p' f' g' d' : Int) (c' : Bool) (b' : ByteArray) (n' : Int)
/-- The sign, its movements made short. -/
def redV : SgT := if sgOK t i m r l s p f g d c b n w t' i' m' r' l' s' p' f' g' d' c' b' n' = true then (if w = true then (t, i, m, r, l, s, p, f, g, d, c, rootV b n, 1, true, t', i', m', r', l', s', p', f', g', d', c', rootV b' n', 1, true) else (t, i, m, r, l, s, p, f, g, d, c, rootV b n, 1, false, t', i', m', r', l', s', p', f', g', d', c', b', n', true)) else sgZ
theorem sg_mv (h : sgOK t i m r l s p f g d c b n w t' i' m' r' l' s' p' f' g' d' c' b' n' = true) : mvOK b n = true ∧ (w = true → mvOK b' n' = true) := by
  unfold sgOK at h
  rw [Bool.and_eq_true] at h
  refine ⟨hd_mv h.1, fun e => ?_⟩
  subst e
  have h2 := h.2
  simp only [if_true, Bool.and_eq_true] at h2
  exact hd_mv h2.1
theorem spec_ReduceSign_ev (hb : b.size ≤ 1048576) (hb' : b'.size ≤ 1048576) : Ev (fun k => spec_ReduceSign.f k t i m r l s p f g d c b n w t' i' m' r' l' s' p' f' g' d' c' b' n') (redV t i m r l s p f g d c b n w t' i' m' r' l' s' p' f' g' d' c' b' n') := by
  unfold spec_ReduceSign.f redV
  refine Ev.bind (spec_good_ev t i m r l s p f g d c b n w t' i' m' r' l' s' p' f' g' d' c' b' n' hb hb') ?_
  cases h : sgOK t i m r l s p f g d c b n w t' i' m' r' l' s' p' f' g' d' c' b' n'
  · simp only [Bool.false_eq_true, if_false]; exact Ev.now _
  · obtain ⟨h1, h2⟩ := sg_mv t i m r l s p f g d c b n w t' i' m' r' l' s' p' f' g' d' c' b' n' h
    simp only [if_true]
    unfold spec_cmReduce.f
    cases w
    · simp only [Bool.false_eq_true, if_false]
      refine Ev.bind (Ev.bind (spec_mvAll_ev h1) (Ev.bind (spec_red_ev h1) (Ev.now _))) (Ev.now _)
    · simp only [if_true]
      refine Ev.bind (Ev.bind (spec_mvAll_ev h1) (Ev.bind (spec_red_ev h1) (Ev.bind (spec_mvAll_ev (h2 rfl)) (Ev.bind (spec_red_ev (h2 rfl)) (Ev.now _))))) (Ev.now _)
theorem impl_ReduceSign_ev (hb : b.size ≤ 1048576) (hb' : b'.size ≤ 1048576) : Ev (fun k => impl_ReduceSign.f k t i m r l s p f g d c b n w t' i' m' r' l' s' p' f' g' d' c' b' n') (redV t i m r l s p f g d c b n w t' i' m' r' l' s' p' f' g' d' c' b' n') := by
  unfold impl_ReduceSign.f redV
  refine Ev.bind (impl_sign_ev t i m r l s p f g d c b n w t' i' m' r' l' s' p' f' g' d' c' b' n' hb hb') ?_
  cases h : sgOK t i m r l s p f g d c b n w t' i' m' r' l' s' p' f' g' d' c' b' n'
  · simp only [Bool.false_eq_true, if_false]; exact Ev.now _
  · obtain ⟨h1, h2⟩ := sg_mv t i m r l s p f g d c b n w t' i' m' r' l' s' p' f' g' d' c' b' n' h
    simp only [if_true]
    unfold impl_Sign_reduced.f
    cases w
    · simp only [Bool.false_eq_true, if_false]
      exact Ev.bind (Ev.bind (impl_red_ev h1) (Ev.now _)) (Ev.now _)
    · simp only [if_true]
      exact Ev.bind (Ev.bind (impl_red_ev h1) (Ev.bind (impl_red_ev (h2 rfl)) (Ev.now _))) (Ev.now _)
end
end Go.Proofs.YtmbffgkejknfaaaGreatDoor.PA
namespace Go.Proofs.YtmbffgkejknfaaaGreatDoor.Pure
open Go.RowKit Go.Proofs.YtmbffgkejknfaaaGreatDoor.PA Go.Proofs.YtmbffgkejknfaaaGreatDoorW.PrintWords Go.Proofs.YtmbffgkejknfaaaGreatDoorW.PrintLast Go.Proofs.YtmbffgkejknfaaaGreatDoorW.PrintMore
theorem FnExactReduceSign : laws_FnExactReduceSign.Pure := by
  rintro ⟨⟨⟨t, i, m, r, l, s⟩, ⟨p, f⟩, ⟨g, d, c⟩, ⟨b, n⟩⟩, w, ⟨⟨t', i', m', r', l', s'⟩, ⟨p', f'⟩, ⟨g', d', c'⟩, ⟨b', n'⟩⟩⟩ hV
  have hb : b.size ≤ 9223372036854775807 := hV.1.2.2.2.1
  have hb' : b'.size ≤ 9223372036854775807 := hV.2.2.2.2.2.1
  refine Ev.rounds (g := fun k => laws_FnExactReduceSign.f k t i m r l s p f g d c b n w t' i' m' r' l' s' p' f' g' d' c' b' n') (r := true) ?_
  unfold laws_FnExactReduceSign.f
  obtain ⟨v, e, hv⟩ := sz_sign t i m r l s p f g d c b n w t' i' m' r' l' s' p' f' g' d' c' b' n' 1048576 (by omega) (by omega) hb hb'
  simp only [e, Option.bind_some, to_sign]
  rcases hv with hv | ⟨h0, _, h1, h2⟩
  · exact Ev.congr (f := fun _ => some true) (fun k => by rw [if_pos hv]) (Ev.now _)
  · simp only [if_neg (show ¬ v < 0 by omega)]
    refine Ev.bind (spec_ReduceSign_ev t i m r l s p f g d c b n w t' i' m' r' l' s' p' f' g' d' c' b' n' h1 h2) (Ev.bind (impl_ReduceSign_ev t i m r l s p f g d c b n w t' i' m' r' l' s' p' f' g' d' c' b' n' h1 h2) ?_)
    exact Ev.congr (f := fun _ => some true) (fun k => by simp only [eq_sign, Option.bind_some, if_true, beq_self_eq_true]) (Ev.now _)
end Go.Proofs.YtmbffgkejknfaaaGreatDoor.Pure
