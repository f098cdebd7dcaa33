/- Orientations and places told by texts; what one piece does: both sides. -/
import Derived.Test.YtcicpmhcmlfhbaaGreatDoorQPieceA
namespace Go.Proofs.YtcicpmhcmlfhbaaGreatDoor.PA
open Go.RowKit Go.Proofs.YtcicpmhcmlfhbaaGreatDoorW.PrintWords Go.Proofs.YtcicpmhcmlfhbaaGreatDoorW.PrintLast Go.Proofs.YtcicpmhcmlfhbaaGreatDoorW.PrintMore
set_option linter.unusedVariables false
set_option linter.unusedSimpArgs false
/-- The orientation that a text tells. -/
def orPs (x : ByteArray) : Int × Int × Bool :=
  if x.size = 2 ∧ orOK (dirIdx (bt x 0)) (dirIdx (bt x 1)) = true then (dirIdx (bt x 0), dirIdx (bt x 1), true) else (0, 0, false)
theorem spec_orl : ∀ c : Fin 256, spec_orLetter.f 8 (c.val : Int) = some (dirIdx (c.val : Int)) := by
  decide +kernel
theorem spec_orl_ev (x : ByteArray) (i : Int) : Ev (fun k => spec_orLetter.f k (bt x i)) (dirIdx (bt x i)) := by
  have h := bt_range x i
  have := spec_orl ⟨(bt x i).toNat, by omega⟩
  simp only [] at this
  rw [Int.toNat_of_nonneg h.1] at this
  exact Ev.of (fun k => spec_orLetter.mono _ k) this
theorem spec_orParse_ev (x : ByteArray) : Ev (fun k => spec_orParse.f k x) (orPs x) := by
  unfold spec_orParse.f orPs
  by_cases h : x.size = 2
  · have h2 : (x.size : Int) = 2 := by omega
    simp only [h2]
    simp only [if_true, Int.reduceLT]
    refine Ev.bind (spec_orl_ev x 0) (Ev.bind (spec_orl_ev x 1) ?_)
    refine Ev.congr (fun k => ?_) (Ev.now _)
    rw [spec_orient, Option.bind_some]
    by_cases ho : orOK (dirIdx (bt x 0)) (dirIdx (bt x 1)) = true
    · rw [if_pos ho, if_pos ⟨h, ho⟩]
    · rw [if_neg ho, if_neg (fun e => ho e.2)]
  · refine Ev.congr (fun k => ?_) (Ev.now _)
    rw [if_neg (by omega), if_neg (fun e => h e.1)]
theorem impl_orParse (x : ByteArray) : impl_ParseOrient.f x = some (orPs x) := by
  unfold impl_ParseOrient.f orPs
  by_cases h : x.size = 2
  · rw [if_pos (by omega), if_pos (by omega)]
    show ((some (dirIdx (bt x 0))).bind fun t334 => _) = _
    rw [Option.bind_some, if_pos (by omega)]
    show ((some (dirIdx (bt x 1))).bind fun t335 => _) = _
    rw [Option.bind_some, impl_orient, Option.bind_some]
    by_cases ho : orOK (dirIdx (bt x 0)) (dirIdx (bt x 1)) = true
    · rw [if_pos ho, if_pos ⟨h, ho⟩]
    · rw [if_neg ho, if_neg (fun e => ho e.2)]
  · rw [if_neg (by omega), if_neg (fun e => h e.1)]
theorem spec_imPlaces_ev (s : ByteArray) : Ev (fun k => spec_imPlaces.f k s) (plPs (oldNm s)) := by
  show Ev (fun k => spec_imPlaces.l0 k s imNames 4 ((0 : Nat) : Int)) _
  by_cases h0 : (⟨#[98, 111, 100, 121]⟩ : ByteArray).toList = s.toList
  · have := im_hit s _ _ 0 (by omega) rfl rfl h0
    rw [ByteArray.toList_eq] at h0
    have : oldNm s = ⟨#[99, 104, 101, 115, 116, 42]⟩ := by unfold oldNm; rw [← h0]; rfl
    rw [this]; assumption
  refine im_miss s _ 0 (by omega) rfl h0 ?_
  by_cases h1 : (⟨#[102, 97, 99, 101]⟩ : ByteArray).toList = s.toList
  · have := im_hit s _ _ 1 (by omega) rfl rfl h1
    rw [ByteArray.toList_eq] at h1
    have : oldNm s = ⟨#[109, 111, 117, 116, 104]⟩ := by unfold oldNm; rw [← h1]; rfl
    rw [this]; assumption
  refine im_miss s _ 1 (by omega) rfl h1 ?_
  by_cases h2 : (⟨#[98, 114, 111, 119]⟩ : ByteArray).toList = s.toList
  · have := im_hit s _ _ 2 (by omega) rfl rfl h2
    rw [ByteArray.toList_eq] at h2
    have : oldNm s = ⟨#[101, 121, 101]⟩ := by unfold oldNm; rw [← h2]; rfl
    rw [this]; assumption
  refine im_miss s _ 2 (by omega) rfl h2 ?_
  by_cases h3 : (⟨#[97, 105, 114]⟩ : ByteArray).toList = s.toList
  · have := im_hit s _ _ 3 (by omega) rfl rfl h3
    rw [ByteArray.toList_eq] at h3
    have : oldNm s = ⟨#[115, 112, 97, 99, 101]⟩ := by unfold oldNm; rw [← h3]; rfl
    rw [this]; assumption
  refine im_miss s _ 3 (by omega) rfl h3 ?_
  have : oldNm s = ⟨#[]⟩ := by
    rw [ByteArray.toList_eq] at h0 h1 h2 h3
    unfold oldNm
    rw [if_neg (fun h => h3 h.symm), if_neg (fun h => h2 h.symm), if_neg (fun h => h1 h.symm), if_neg (fun h => h0 h.symm)]
  rw [this, show plPs ⟨#[]⟩ = (0, 0, false, false) by unfold plPs plTab plHit; simp only [ByteArray.toList_eq]; decide +kernel]
  exact ⟨1, fun k hk => by obtain ⟨k, rfl⟩ : ∃ m, k = m + 1 := ⟨k - 1, by omega⟩; simp only [spec_imPlaces.l0]; rfl⟩
theorem pl_none : plPs ⟨#[]⟩ = (0, 0, false, false) := by unfold plPs plTab plHit; simp only [ByteArray.toList_eq]; decide +kernel
/-- No old name is a new one. -/
theorem old_new (v : ByteArray) (h : (plPs (oldNm v)).2.2.2 = true) : plPs v = (0, 0, false, false) := by
  have key : ∀ c : ByteArray, v.toList = c.data.toList → v = c := fun c e => bs_ext (by rw [← e, bs_list])
  unfold oldNm at h
  split at h
  · rename_i e; rw [key ⟨#[97, 105, 114]⟩ e]; unfold plPs plTab plHit; simp only [ByteArray.toList_eq]; decide +kernel
  · split at h
    · rename_i e; rw [key ⟨#[98, 114, 111, 119]⟩ e]; unfold plPs plTab plHit; simp only [ByteArray.toList_eq]; decide +kernel
    · split at h
      · rename_i e; rw [key ⟨#[102, 97, 99, 101]⟩ e]; unfold plPs plTab plHit; simp only [ByteArray.toList_eq]; decide +kernel
      · split at h
        · rename_i e; rw [key ⟨#[98, 111, 100, 121]⟩ e]; unfold plPs plTab plHit; simp only [ByteArray.toList_eq]; decide +kernel
        · rw [pl_none] at h; cases h
theorem sh_none : shPs ⟨#[]⟩ = shNo := by decide +kernel
theorem or_none : orPs ⟨#[]⟩ = (0, 0, false) := by decide +kernel
theorem mv_none : (psV ⟨#[]⟩).2.2 = false := by unfold psV; simp only [ByteArray.toList_eq]; decide +kernel
theorem old_none : oldNm ⟨#[]⟩ = ⟨#[]⟩ := by unfold oldNm; simp only [ByteArray.toList_eq]; decide +kernel
end Go.Proofs.YtcicpmhcmlfhbaaGreatDoor.PA
