/- The law FnExactGapOfSigns, plainly: for every two signs the program's and the reference's functions return the same number and the same bool. -/
import Derived.Test.YtmbffgkejknfaaaGreatDoorWalkFnExactGapOfSigns
import Derived.Test.YtmbffgkejknfaaaGreatDoorPAx9
import Derived.Test.YtmbffgkejknfaaaGreatDoorQSigns
import Derived.Test.YtmbffgkejknfaaaGreatDoorQPl
namespace Go.Proofs.YtmbffgkejknfaaaGreatDoor.PA
open Go.RowKit Go.Proofs.YtmbffgkejknfaaaGreatDoorW.PrintWords Go.Proofs.YtmbffgkejknfaaaGreatDoorW.PrintLast Go.Proofs.YtmbffgkejknfaaaGreatDoorW.PrintMore
section
variable (t i m r l : Int) (s : Bool) (p f g d : Int) (c : Bool) (b : ByteArray) (n : Int) (w : Bool) (t' i' m' r' l' : Int) (s' : Bool) (p' f' g' d' : Int) (c' : Bool) (b' : ByteArray) (n' : Int)
variable (T I M R L : Int) (S : Bool) (P F G D : Int) (C : Bool) (B : ByteArray) (N : Int) (W : Bool) (T' I' M' R' L' : Int) (S' : Bool) (P' F' G' D' : Int) (C' : Bool) (B' : ByteArray) (N' : Int)
/-- The gap. -/
def gapV (g d : Int) (c w : Bool) (G D : Int) (C W : Bool) : Int := if (w != W) = true then wrap64 (plV g d c G D C + 1) else plV g d c G D C
theorem sg_pl (h : sgOK t i m r l s p f g d c b n w t' i' m' r' l' s' p' f' g' d' c' b' n' = true) : plOK g d c = true := by
  unfold sgOK at h
  rw [Bool.and_eq_true] at h
  exact (hdOK_parts h.1).2.1
theorem spec_gap (h : sgOK t i m r l s p f g d c b n w t' i' m' r' l' s' p' f' g' d' c' b' n' = true) (h' : sgOK T I M R L S P F G D C B N W T' I' M' R' L' S' P' F' G' D' C' B' N' = true) : spec_cmGap.f t i m r l s p f g d c b n w t' i' m' r' l' s' p' f' g' d' c' b' n' T I M R L S P F G D C B N W T' I' M' R' L' S' P' F' G' D' C' B' N' = some (gapV g d c w G D C W) := by
  unfold spec_cmGap.f gapV
  rw [spec_pl (sg_pl t i m r l s p f g d c b n w t' i' m' r' l' s' p' f' g' d' c' b' n' h) (sg_pl T I M R L S P F G D C B N W T' I' M' R' L' S' P' F' G' D' C' B' N' h'), Option.bind_some]
  simp only [bne]
  obtain e1 | e1 := Bool.eq_false_or_eq_true (w == W) <;> simp only [e1, if_true, Bool.not_true, Bool.not_false, Bool.false_eq_true, if_false]
theorem impl_gap_v (h : sgOK t i m r l s p f g d c b n w t' i' m' r' l' s' p' f' g' d' c' b' n' = true) (h' : sgOK T I M R L S P F G D C B N W T' I' M' R' L' S' P' F' G' D' C' B' N' = true) : impl_gap.f t i m r l s p f g d c b n w t' i' m' r' l' s' p' f' g' d' c' b' n' T I M R L S P F G D C B N W T' I' M' R' L' S' P' F' G' D' C' B' N' = some (gapV g d c w G D C W) := by
  unfold impl_gap.f gapV
  rw [impl_pl (sg_pl t i m r l s p f g d c b n w t' i' m' r' l' s' p' f' g' d' c' b' n' h) (sg_pl T I M R L S P F G D C B N W T' I' M' R' L' S' P' F' G' D' C' B' N' h'), Option.bind_some]
  simp only [bne]
  obtain e1 | e1 := Bool.eq_false_or_eq_true (w == W) <;> simp only [e1, if_true, Bool.not_true, Bool.not_false, Bool.false_eq_true, if_false]
theorem spec_GapOfSigns_ev (hb : b.size ≤ 1048576) (hb' : b'.size ≤ 1048576) (hB : B.size ≤ 1048576) (hB' : B'.size ≤ 1048576) : Ev (fun k => spec_GapOfSigns.f k t i m r l s p f g d c b n w t' i' m' r' l' s' p' f' g' d' c' b' n' T I M R L S P F G D C B N W T' I' M' R' L' S' P' F' G' D' C' B' N') (if (sgOK t i m r l s p f g d c b n w t' i' m' r' l' s' p' f' g' d' c' b' n' && sgOK T I M R L S P F G D C B N W T' I' M' R' L' S' P' F' G' D' C' B' N') = true then (gapV g d c w G D C W, true) else (0, false)) := by
  unfold spec_GapOfSigns.f spec_feBoth.f
  have e := spec_good_ev t i m r l s p f g d c b n w t' i' m' r' l' s' p' f' g' d' c' b' n' hb hb'
  have e' := spec_good_ev T I M R L S P F G D C B N W T' I' M' R' L' S' P' F' G' D' C' B' N' hB hB'
  cases h : sgOK t i m r l s p f g d c b n w t' i' m' r' l' s' p' f' g' d' c' b' n'
  · rw [h] at e
    refine Ev.bind (a := false) (Ev.bind e (Ev.congr (f := fun _ => some false) (fun k => by simp) (Ev.now _))) ?_
    simp only [Bool.false_and, Bool.false_eq_true, if_false]; exact Ev.now _
  · rw [h] at e
    refine Ev.bind (a := sgOK T I M R L S P F G D C B N W T' I' M' R' L' S' P' F' G' D' C' B' N') (Ev.bind e ?_) ?_
    · simp only [if_true]
      exact Ev.bind e' (Ev.now _)
    · simp only [Bool.true_and]
      cases h' : sgOK T I M R L S P F G D C B N W T' I' M' R' L' S' P' F' G' D' C' B' N'
      · simp only [Bool.false_eq_true, if_false]; exact Ev.now _
      · simp only [if_true, spec_gap t i m r l s p f g d c b n w t' i' m' r' l' s' p' f' g' d' c' b' n' T I M R L S P F G D C B N W T' I' M' R' L' S' P' F' G' D' C' B' N' h h', Option.bind_some]; exact Ev.now _
theorem impl_GapOfSigns_ev (hb : b.size ≤ 1048576) (hb' : b'.size ≤ 1048576) (hB : B.size ≤ 1048576) (hB' : B'.size ≤ 1048576) : Ev (fun k => impl_GapOfSigns.f k t i m r l s p f g d c b n w t' i' m' r' l' s' p' f' g' d' c' b' n' T I M R L S P F G D C B N W T' I' M' R' L' S' P' F' G' D' C' B' N') (if (sgOK t i m r l s p f g d c b n w t' i' m' r' l' s' p' f' g' d' c' b' n' && sgOK T I M R L S P F G D C B N W T' I' M' R' L' S' P' F' G' D' C' B' N') = true then (gapV g d c w G D C W, true) else (0, false)) := by
  unfold impl_GapOfSigns.f
  refine Ev.bind (impl_sign_ev t i m r l s p f g d c b n w t' i' m' r' l' s' p' f' g' d' c' b' n' hb hb') ?_
  cases h : sgOK t i m r l s p f g d c b n w t' i' m' r' l' s' p' f' g' d' c' b' n'
  · simp only [Bool.false_and, Bool.false_eq_true, if_false]; exact Ev.now _
  · simp only [if_true, Bool.true_and]
    refine Ev.bind (impl_sign_ev T I M R L S P F G D C B N W T' I' M' R' L' S' P' F' G' D' C' B' N' hB hB') ?_
    cases h' : sgOK T I M R L S P F G D C B N W T' I' M' R' L' S' P' F' G' D' C' B' N'
    · simp only [Bool.false_eq_true, if_false]; exact Ev.now _
    · simp only [if_true, impl_gap_v t i m r l s p f g d c b n w t' i' m' r' l' s' p' f' g' d' c' b' n' T I M R L S P F G D C B N W T' I' M' R' L' S' P' F' G' D' C' B' N' h h', Option.bind_some]; exact Ev.now _
end
end Go.Proofs.YtmbffgkejknfaaaGreatDoor.PA
namespace Go.Proofs.YtmbffgkejknfaaaGreatDoor.Pure
open Go.RowKit Go.Proofs.YtmbffgkejknfaaaGreatDoor.PA Go.Proofs.YtmbffgkejknfaaaGreatDoorW.PrintWords Go.Proofs.YtmbffgkejknfaaaGreatDoorW.PrintLast Go.Proofs.YtmbffgkejknfaaaGreatDoorW.PrintMore
theorem FnExactGapOfSigns : laws_FnExactGapOfSigns.Pure := by
  rintro ⟨⟨⟨t, i, m, r, l, s⟩, ⟨p, f⟩, ⟨g, d, c⟩, ⟨b, n⟩⟩, w, ⟨⟨t', i', m', r', l', s'⟩, ⟨p', f'⟩, ⟨g', d', c'⟩, ⟨b', n'⟩⟩⟩ ⟨⟨⟨T, I, M, R, L, S⟩, ⟨P, F⟩, ⟨G, D, C⟩, ⟨B, N⟩⟩, W, ⟨⟨T', I', M', R', L', S'⟩, ⟨P', F'⟩, ⟨G', D', C'⟩, ⟨B', N'⟩⟩⟩ hV hW
  have hb : b.size ≤ 9223372036854775807 := hV.1.2.2.2.1
  have hb' : b'.size ≤ 9223372036854775807 := hV.2.2.2.2.2.1
  have hB : B.size ≤ 9223372036854775807 := hW.1.2.2.2.1
  have hB' : B'.size ≤ 9223372036854775807 := hW.2.2.2.2.2.1
  refine Ev.rounds (g := fun k => laws_FnExactGapOfSigns.f k t i m r l s p f g d c b n w t' i' m' r' l' s' p' f' g' d' c' b' n' T I M R L S P F G D C B N W T' I' M' R' L' S' P' F' G' D' C' B' N') (r := true) ?_
  unfold laws_FnExactGapOfSigns.f
  obtain ⟨v, e, hv⟩ := sz_sign t i m r l s p f g d c b n w t' i' m' r' l' s' p' f' g' d' c' b' n' 1048576 (by omega) (by omega) hb hb'
  simp only [e, Option.bind_some, to_sign]
  rcases hv with hv | ⟨h0, hv2, h1, h2⟩
  · exact Ev.congr (f := fun _ => some true) (fun k => by rw [if_pos hv]) (Ev.now _)
  · simp only [if_neg (show ¬ v < 0 by omega)]
    obtain ⟨v', e', hv'⟩ := sz_sign T I M R L S P F G D C B N W T' I' M' R' L' S' P' F' G' D' C' B' N' v h0 hv2 hB hB'
    simp only [e', Option.bind_some]
    rcases hv' with hv' | ⟨h0', _, h1', h2'⟩
    · exact Ev.congr (f := fun _ => some true) (fun k => by rw [if_pos hv']) (Ev.now _)
    · simp only [if_neg (show ¬ v' < 0 by omega)]
      refine Ev.bind (spec_GapOfSigns_ev t i m r l s p f g d c b n w t' i' m' r' l' s' p' f' g' d' c' b' n' T I M R L S P F G D C B N W T' I' M' R' L' S' P' F' G' D' C' B' N' h1 h2 h1' h2') (Ev.bind (impl_GapOfSigns_ev t i m r l s p f g d c b n w t' i' m' r' l' s' p' f' g' d' c' b' n' T I M R L S P F G D C B N W T' I' M' R' L' S' P' F' G' D' C' B' N' h1 h2 h1' h2') ?_)
      exact Ev.congr (f := fun _ => some true) (fun k => by simp) (Ev.now _)
end Go.Proofs.YtmbffgkejknfaaaGreatDoor.Pure
