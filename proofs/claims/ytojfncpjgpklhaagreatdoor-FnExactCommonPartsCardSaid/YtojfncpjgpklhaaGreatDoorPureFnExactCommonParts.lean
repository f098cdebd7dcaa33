/- The law FnExactCommonParts, plainly: the program's and the reference's functions return the same number and the same bool. -/
import Derived.Test.YtojfncpjgpklhaaGreatDoorWalkFnExactCommonParts
import Derived.Test.YtojfncpjgpklhaaGreatDoorPAx13
import Derived.Test.YtojfncpjgpklhaaGreatDoorPAx11
import Derived.Test.YtojfncpjgpklhaaGreatDoorPAx12
import Derived.Test.YtojfncpjgpklhaaGreatDoorPAx9
import Derived.Test.YtojfncpjgpklhaaGreatDoorQSigns
namespace Go.Proofs.YtojfncpjgpklhaaGreatDoor.PA
open Go.RowKit Go.Proofs.YtojfncpjgpklhaaGreatDoorW.PrintWords Go.Proofs.YtojfncpjgpklhaaGreatDoorW.PrintLast Go.Proofs.YtojfncpjgpklhaaGreatDoorW.PrintMore
set_option linter.unusedVariables false
set_option linter.unusedSimpArgs false
theorem cm_from (L : List Bool) (hL : L.length ≤ 1000) : ∀ (e j : Nat) (x : Int), L.length - j = e → j ≤ L.length → 0 ≤ x → x ≤ (j : Int) → Ev (fun k => spec_CommonParts.l0 k x L (L.length : Int) (j : Int)) (x + thBCnt (L.drop j), true)
  | 0, j, x, he, hj, h0, h1 => by
    rw [List.drop_eq_nil_of_le (by omega)]
    refine Ev.step (f := fun _ => some (x + thBCnt [], true)) (fun k => ?_) (Ev.now _)
    simp only [spec_CommonParts.l0]
    rw [if_neg (by omega)]
    simp [thBCnt]
  | e + 1, j, x, he, hj, h0, h1 => by
    have hlt : j < L.length := by omega
    have hwj : wrap64 ((j : Int) + 1) = ((j + 1 : Nat) : Int) := w64_succ (by omega)
    have hwx : wrap64 (x + 1) = x + 1 := w64_i (by omega) (by omega)
    have hr : rdOf false L (j : Int) = L[j] := by
      unfold rdOf
      rw [List.getD_eq_getElem?_getD]
      simp [hlt]
    have hc : thBCnt (L.drop j) = (if L[j] = true then 1 else 0) + thBCnt (L.drop (j + 1)) := by
      unfold thBCnt
      rw [List.drop_eq_getElem_cons hlt, List.filter_cons]
      cases L[j] <;> simp <;> omega
    rw [hc]
    cases hq : L[j]
    · have ih := cm_from L hL e (j + 1) x (by omega) (by omega) h0 (by omega)
      simp only [Bool.false_eq_true, if_false, Int.zero_add]
      refine Ev.step (fun k => ?_) ih
      simp only [spec_CommonParts.l0, hwj, hr, hq]
      rw [if_pos (by omega), if_pos (by omega), if_pos (by omega), if_neg (by decide)]
    · have ih := cm_from L hL e (j + 1) (x + 1) (by omega) (by omega) (by omega) (by omega)
      simp only [if_true]
      rw [show x + (1 + thBCnt (L.drop (j + 1))) = x + 1 + thBCnt (L.drop (j + 1)) by omega]
      refine Ev.step (fun k => ?_) ih
      simp only [spec_CommonParts.l0, hwj, hwx, hr, hq, if_true]
      rw [if_pos (by omega), if_pos (by omega), if_pos (by omega)]
/-- The four parts, the same? -/
def cmL (x y : SgN) : List Bool := [(x.1 == y.1 && (x.2.1 == y.2.1 && (x.2.2.1 == y.2.2.1 && (x.2.2.2.1 == y.2.2.2.1 && (x.2.2.2.2.1 == y.2.2.2.2.1 && (x.2.2.2.2.2.1 == y.2.2.2.2.2.1)))))), (x.2.2.2.2.2.2.1 == y.2.2.2.2.2.2.1 && (x.2.2.2.2.2.2.2.1 == y.2.2.2.2.2.2.2.1)), (x.2.2.2.2.2.2.2.2.1 == y.2.2.2.2.2.2.2.2.1 && (x.2.2.2.2.2.2.2.2.2.1 == y.2.2.2.2.2.2.2.2.2.1 && (x.2.2.2.2.2.2.2.2.2.2.1 == y.2.2.2.2.2.2.2.2.2.2.1))), (x.2.2.2.2.2.2.2.2.2.2.2.1.toList == y.2.2.2.2.2.2.2.2.2.2.2.1.toList && (x.2.2.2.2.2.2.2.2.2.2.2.2.1 == y.2.2.2.2.2.2.2.2.2.2.2.2.1))]
section
variable (t i m r l : Int) (s : Bool) (p f g d : Int) (c : Bool) (b : ByteArray) (n : Int) (w : Bool) (t' i' m' r' l' : Int) (s' : Bool) (p' f' g' d' : Int) (c' : Bool) (b' : ByteArray) (n' : Int)
variable (T I M R L : Int) (S : Bool) (P F G D : Int) (C : Bool) (B : ByteArray) (N : Int) (W : Bool) (T' I' M' R' L' : Int) (S' : Bool) (P' F' G' D' : Int) (C' : Bool) (B' : ByteArray) (N' : Int)
theorem both_ev (hb : b.size ≤ 1048576) (hb' : b'.size ≤ 1048576) (hB : B.size ≤ 1048576) (hB' : B'.size ≤ 1048576) : ∃ x, Ev (fun k => spec_CommonParts.f k t i m r l s p f g d c b n w t' i' m' r' l' s' p' f' g' d' c' b' n' T I M R L S P F G D C B N W T' I' M' R' L' S' P' F' G' D' C' B' N') x ∧ Ev (fun k => impl_CommonParts.f k t i m r l s p f g d c b n w t' i' m' r' l' s' p' f' g' d' c' b' n' T I M R L S P F G D C B N W T' I' M' R' L' S' P' F' G' D' C' B' N') x := by
  unfold spec_CommonParts.f impl_CommonParts.f
  have q1 := spec_good_ev t i m r l s p f g d c b n w t' i' m' r' l' s' p' f' g' d' c' b' n' hb hb'
  have q2 := impl_sign_ev t i m r l s p f g d c b n w t' i' m' r' l' s' p' f' g' d' c' b' n' hb hb'
  have q3 := spec_good_ev T I M R L S P F G D C B N W T' I' M' R' L' S' P' F' G' D' C' B' N' hB hB'
  have q4 := impl_sign_ev T I M R L S P F G D C B N W T' I' M' R' L' S' P' F' G' D' C' B' N' hB hB'
  have qb : Ev (fun k => spec_feBoth.f k t i m r l s p f g d c b n w t' i' m' r' l' s' p' f' g' d' c' b' n' T I M R L S P F G D C B N W T' I' M' R' L' S' P' F' G' D' C' B' N') (sgOK t i m r l s p f g d c b n w t' i' m' r' l' s' p' f' g' d' c' b' n' && sgOK T I M R L S P F G D C B N W T' I' M' R' L' S' P' F' G' D' C' B' N') := by
    unfold spec_feBoth.f
    refine Ev.bind q1 ?_
    cases sgOK t i m r l s p f g d c b n w t' i' m' r' l' s' p' f' g' d' c' b' n'
    · simp only [Bool.false_eq_true, if_false, Bool.false_and]; exact Ev.now _
    · simp only [if_true, Bool.true_and]; exact Ev.bind q3 (Ev.now _)
  have hj : Ev (fun k => impl_CommonParts.j0 k true t i m r l s p f g d c b n w t' i' m' r' l' s' p' f' g' d' c' b' n' T I M R L S P F G D C B N W T' I' M' R' L' S' P' F' G' D' C' B' N') (0, false) := Ev.step (f := fun _ => some (0, false)) (fun k => by simp only [impl_CommonParts.j0, if_true]) (Ev.now _)
  cases h : sgOK t i m r l s p f g d c b n w t' i' m' r' l' s' p' f' g' d' c' b' n'
  · rw [h] at q2 qb
    rw [Bool.false_and] at qb
    refine ⟨(0, false), Ev.bind qb ?_, Ev.bind q2 ?_⟩ <;> simp only [Bool.false_eq_true, if_false]
    · exact Ev.now _
    · exact hj
  · rw [h] at q2 qb
    rw [Bool.true_and] at qb
    obtain ⟨n1, n2, n3⟩ := sgOK_nf t i m r l s p f g d c b n w t' i' m' r' l' s' p' f' g' d' c' b' n' h
    cases h' : sgOK T I M R L S P F G D C B N W T' I' M' R' L' S' P' F' G' D' C' B' N'
    · rw [h'] at q4 qb
      refine ⟨(0, false), Ev.bind qb ?_, Ev.bind q2 ?_⟩ <;> simp only [if_true, Bool.false_eq_true, if_false]
      · exact Ev.now _
      · exact Ev.bind q4 hj
    · rw [h'] at q4 qb
      obtain ⟨m1, m2, m3⟩ := sgOK_nf T I M R L S P F G D C B N W T' I' M' R' L' S' P' F' G' D' C' B' N' h'
      refine ⟨(thBCnt (cmL (noV t i m r l s p f g d c b n w t' i' m' r' l' s' p' f' g' d' c' b' n') (noV T I M R L S P F G D C B N W T' I' M' R' L' S' P' F' G' D' C' B' N')), true), Ev.bind qb ?_, Ev.bind q2 ?_⟩ <;> simp only [if_true]
      · refine Ev.bind (spec_norm_ev t i m r l s p f g d c b n w t' i' m' r' l' s' p' f' g' d' c' b' n' n1 n2) (Ev.bind (spec_norm_ev T I M R L S P F G D C B N W T' I' M' R' L' S' P' F' G' D' C' B' N' m1 m2) ?_)
        have q5 := cm_from (cmL (noV t i m r l s p f g d c b n w t' i' m' r' l' s' p' f' g' d' c' b' n') (noV T I M R L S P F G D C B N W T' I' M' R' L' S' P' F' G' D' C' B' N')) (by simp [cmL]) _ 0 0 rfl (Nat.zero_le _) (by omega) (by omega)
        rw [List.drop_zero, Int.zero_add] at q5
        exact q5
      · refine Ev.bind q4 ?_
        refine Ev.step (fun k => by simp only [impl_CommonParts.j0, Bool.not_true, Bool.false_eq_true, if_false]; exact rfl) ?_
        refine Ev.bind (impl_norm_ev t i m r l s p f g d c b n w t' i' m' r' l' s' p' f' g' d' c' b' n' n1 n2 n3) (Ev.bind (impl_norm_ev T I M R L S P F G D C B N W T' I' M' R' L' S' P' F' G' D' C' B' N' m1 m2 m3) ?_)
        refine Ev.congr (f := fun _ => some (thBCnt (cmL (noV t i m r l s p f g d c b n w t' i' m' r' l' s' p' f' g' d' c' b' n') (noV T I M R L S P F G D C B N W T' I' M' R' L' S' P' F' G' D' C' B' N')), true)) (fun k => ?_) (Ev.now _)
        generalize noV t i m r l s p f g d c b n w t' i' m' r' l' s' p' f' g' d' c' b' n' = x
        generalize noV T I M R L S P F G D C B N W T' I' M' R' L' S' P' F' G' D' C' B' N' = y
        have e : ∀ L : List Bool, L.length ≤ 1000 → ((some L).bind fun l => if l.length ≤ 1000 then some (thBCnt l) else none) = some (thBCnt L) := fun L h => if_pos h
        unfold impl_Hand_common.f impl_Hand_same.f
        rw [e _ (by simp)]
        rfl
end
end Go.Proofs.YtojfncpjgpklhaaGreatDoor.PA
namespace Go.Proofs.YtojfncpjgpklhaaGreatDoor.Pure
open Go.RowKit Go.Proofs.YtojfncpjgpklhaaGreatDoor.PA Go.Proofs.YtojfncpjgpklhaaGreatDoorW.PrintWords Go.Proofs.YtojfncpjgpklhaaGreatDoorW.PrintLast Go.Proofs.YtojfncpjgpklhaaGreatDoorW.PrintMore
theorem FnExactCommonParts : laws_FnExactCommonParts.Pure := by
  rintro ⟨⟨⟨t, i, m, r, l, s⟩, ⟨p, f⟩, ⟨g, d, c⟩, ⟨b, n⟩⟩, w, ⟨⟨t', i', m', r', l', s'⟩, ⟨p', f'⟩, ⟨g', d', c'⟩, ⟨b', n'⟩⟩⟩ ⟨⟨⟨T, I, M, R, L, S⟩, ⟨P, F⟩, ⟨G, D, C⟩, ⟨B, N⟩⟩, W, ⟨⟨T', I', M', R', L', S'⟩, ⟨P', F'⟩, ⟨G', D', C'⟩, ⟨B', N'⟩⟩⟩ hV hW
  have hb : b.size ≤ 9223372036854775807 := hV.1.2.2.2.1
  have hb' : b'.size ≤ 9223372036854775807 := hV.2.2.2.2.2.1
  have hB : B.size ≤ 9223372036854775807 := hW.1.2.2.2.1
  have hB' : B'.size ≤ 9223372036854775807 := hW.2.2.2.2.2.1
  refine Ev.rounds (g := fun k => laws_FnExactCommonParts.f k t i m r l s p f g d c b n w t' i' m' r' l' s' p' f' g' d' c' b' n' T I M R L S P F G D C B N W T' I' M' R' L' S' P' F' G' D' C' B' N') (r := true) ?_
  unfold laws_FnExactCommonParts.f
  obtain ⟨v, e, hv⟩ := sz_sign t i m r l s p f g d c b n w t' i' m' r' l' s' p' f' g' d' c' b' n' 1048576 (by omega) (by omega) hb hb'
  simp only [e, Option.bind_some, to_sign]
  rcases hv with hv | ⟨h0, hv2, h1, h2⟩
  · exact Ev.congr (f := fun _ => some true) (fun k => by rw [if_pos hv]) (Ev.now _)
  · simp only [if_neg (show ¬ v < 0 by omega)]
    obtain ⟨v', e', hv'⟩ := sz_sign T I M R L S P F G D C B N W T' I' M' R' L' S' P' F' G' D' C' B' N' v h0 hv2 hB hB'
    simp only [e', Option.bind_some]
    rcases hv' with hv' | ⟨h0', _, h1', h2'⟩
    · exact Ev.congr (f := fun _ => some true) (fun k => by rw [if_pos hv']) (Ev.now _)
    · simp only [if_neg (show ¬ v' < 0 by omega)]
      obtain ⟨x, hx, hy⟩ := both_ev t i m r l s p f g d c b n w t' i' m' r' l' s' p' f' g' d' c' b' n' T I M R L S P F G D C B N W T' I' M' R' L' S' P' F' G' D' C' B' N' h1 h2 h1' h2'
      refine Ev.bind hx (Ev.bind hy ?_)
      exact Ev.congr (f := fun _ => some true) (fun k => by simp only [if_true, beq_self_eq_true]) (Ev.now _)
end Go.Proofs.YtojfncpjgpklhaaGreatDoor.Pure
