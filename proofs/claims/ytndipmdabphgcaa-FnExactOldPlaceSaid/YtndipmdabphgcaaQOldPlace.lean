/- The plain law of old places: both functions return the place that the old name stands for. -/
import Derived.Test.YtndipmdabphgcaaPAx3
import Derived.Test.YtndipmdabphgcaaPAx6
import Derived.Test.YtndipmdabphgcaaQPlace
namespace Go.Proofs.Ytndipmdabphgcaa.PA
open Go.RowKit Go.Proofs.YtndipmdabphgcaaW.PrintWords Go.Proofs.YtndipmdabphgcaaW.PrintLast Go.Proofs.YtndipmdabphgcaaW.PrintMore
set_option linter.unusedVariables false
set_option linter.unusedSimpArgs false

theorem impl_OldPlace_ev (s : ByteArray) (hs : s.size ≤ 9223372036854775807) : Ev (fun k => impl_OldPlace.f k s) (plPs (oldNm s)) := by
  refine Ev.congr (fun k => ?_) (impl_ParsePlace_ev (oldNm s))
  unfold impl_OldPlace.f
  rw [if_pos hs]

def imNames : List ByteArray := [(⟨#[98, 111, 100, 121]⟩ : ByteArray), (⟨#[102, 97, 99, 101]⟩ : ByteArray), (⟨#[98, 114, 111, 119]⟩ : ByteArray), (⟨#[97, 105, 114]⟩ : ByteArray)]
def imVals : List ByteArray := [(⟨#[99, 104, 101, 115, 116, 42]⟩ : ByteArray), (⟨#[109, 111, 117, 116, 104]⟩ : ByteArray), (⟨#[101, 121, 101]⟩ : ByteArray), (⟨#[115, 112, 97, 99, 101]⟩ : ByteArray)]

theorem im_hit (s n v : ByteArray) (i : Nat) (hi : i < 4) (hn : rdOf ByteArray.empty imNames (i : Int) = n) (hv : rdOf ByteArray.empty imVals (i : Int) = v) (h : n.toList = s.toList) :
    Ev (fun k => spec_imPlaces.l0 k s imNames 4 (i : Int)) (plPs v) := by
  refine Ev.step (fun k => ?_) (spec_plParse_ev v)
  simp only [spec_imPlaces.l0]
  rw [if_pos (by omega), if_pos (by omega), if_pos (by show (i : Int) < 4; omega), hn, if_pos h]
  simp only [Option.bind_some]
  rw [if_pos (by show (i : Int) < 4; omega)]
  show (spec_plParse.f k (rdOf ByteArray.empty imVals (i : Int))).bind _ = _
  rw [hv]
  cases spec_plParse.f k v <;> rfl
theorem im_miss (s n : ByteArray) (i : Nat) (hi : i < 4) (hn : rdOf ByteArray.empty imNames (i : Int) = n) (h : ¬ n.toList = s.toList) {r : Int × Int × Bool × Bool}
    (hk : Ev (fun k => spec_imPlaces.l0 k s imNames 4 ((i + 1 : Nat) : Int)) r) : Ev (fun k => spec_imPlaces.l0 k s imNames 4 (i : Int)) r := by
  refine Ev.step (fun k => ?_) hk
  simp only [spec_imPlaces.l0]
  have e : wrap64 ((i : Int) + 1) = ((i + 1 : Nat) : Int) := by rw [w64_in (by omega) (by omega)]; omega
  rw [if_pos (by omega), if_pos (by omega), if_pos (by show (i : Int) < 4; omega), hn, if_neg h, e]
theorem spec_OldPlace_ev (s : ByteArray) : Ev (fun k => spec_OldPlace.f k s) (plPs (oldNm s)) := by
  have e : Ev (fun k => spec_imPlaces.f k s) (plPs (oldNm s)) := by
    show Ev (fun k => spec_imPlaces.l0 k s imNames 4 ((0 : Nat) : Int)) _
    by_cases h0 : (⟨#[98, 111, 100, 121]⟩ : ByteArray).toList = s.toList
    · have := im_hit s _ _ 0 (by omega) rfl rfl h0
      rw [ByteArray.toList_eq] at h0
      have : oldNm s = ⟨#[99, 104, 101, 115, 116, 42]⟩ := by unfold oldNm; rw [← h0]; rfl
      rw [this]; assumption
    refine im_miss s _ 0 (by omega) rfl h0 ?_
    by_cases h1 : (⟨#[102, 97, 99, 101]⟩ : ByteArray).toList = s.toList
    · have := im_hit s _ _ 1 (by omega) rfl rfl h1
      rw [ByteArray.toList_eq] at h1
      have : oldNm s = ⟨#[109, 111, 117, 116, 104]⟩ := by unfold oldNm; rw [← h1]; rfl
      rw [this]; assumption
    refine im_miss s _ 1 (by omega) rfl h1 ?_
    by_cases h2 : (⟨#[98, 114, 111, 119]⟩ : ByteArray).toList = s.toList
    · have := im_hit s _ _ 2 (by omega) rfl rfl h2
      rw [ByteArray.toList_eq] at h2
      have : oldNm s = ⟨#[101, 121, 101]⟩ := by unfold oldNm; rw [← h2]; rfl
      rw [this]; assumption
    refine im_miss s _ 2 (by omega) rfl h2 ?_
    by_cases h3 : (⟨#[97, 105, 114]⟩ : ByteArray).toList = s.toList
    · have := im_hit s _ _ 3 (by omega) rfl rfl h3
      rw [ByteArray.toList_eq] at h3
      have : oldNm s = ⟨#[115, 112, 97, 99, 101]⟩ := by unfold oldNm; rw [← h3]; rfl
      rw [this]; assumption
    refine im_miss s _ 3 (by omega) rfl h3 ?_
    have : oldNm s = ⟨#[]⟩ := by
      rw [ByteArray.toList_eq] at h0 h1 h2 h3
      unfold oldNm
      rw [if_neg (fun h => h3 h.symm), if_neg (fun h => h2 h.symm), if_neg (fun h => h1 h.symm), if_neg (fun h => h0 h.symm)]
    rw [this, show plPs ⟨#[]⟩ = (0, 0, false, false) by unfold plPs plTab plHit; simp only [ByteArray.toList_eq]; decide +kernel]
    exact ⟨1, fun k hk => by obtain ⟨k, rfl⟩ : ∃ m, k = m + 1 := ⟨k - 1, by omega⟩; simp only [spec_imPlaces.l0]; rfl⟩
  refine Ev.congr (fun k => ?_) e
  unfold spec_OldPlace.f
  cases spec_imPlaces.f k s <;> rfl
end Go.Proofs.Ytndipmdabphgcaa.PA
