/- The plain law of desks: what is valid, what edits make, and what all functions of desks return. -/
import Derived.Test.YtolhmpagpoidjaaGreatPAx1
import Derived.Test.YtolhmpagpoidjaaGreatQMoves
namespace Go.Proofs.YtolhmpagpoidjaaGreat.PA
open Go.RowKit Go.Proofs.YtolhmpagpoidjaaGreatW.PrintWords Go.Proofs.YtolhmpagpoidjaaGreatW.PrintLast Go.Proofs.YtolhmpagpoidjaaGreatW.PrintMore
set_option linter.unusedVariables false
set_option linter.unusedSimpArgs false
theorem mir_bt (s : ByteArray) (i : Nat) (h : i < s.size) : bt s (i : Int) = ((s.data.toList[i]'(by rw [Array.length_toList]; exact h)).toNat : Int) := by
  unfold bt
  rw [dif_pos (show ((i : Int)).toNat < s.size by omega)]
  simp [ByteArray.getElem_eq_getElem_data]
/-- The first i letters, mirrored. -/
def mirPre (s : ByteArray) (i : Nat) : ByteArray := ⟨((s.data.toList.take i).map mirB).toArray⟩
theorem mirPre_size (s : ByteArray) (i : Nat) (h : i ≤ s.size) : (mirPre s i).size = i := by
  show ((s.data.toList.take i).map mirB).toArray.size = i
  have : s.data.toList.length = s.size := Array.length_toList
  simp; omega
theorem mirPre_succ (s : ByteArray) (i : Nat) (h : i < s.size) (b : ByteArray) (hb : b.data.toList = [mirB (s.data.toList[i]'(by rw [Array.length_toList]; exact h))]) : mirPre s i ++ b = mirPre s (i + 1) := by
  refine bs_ext ?_
  have hl : i < s.data.toList.length := by rw [Array.length_toList]; exact h
  show (mirPre s i ++ b).data.toList = ((s.data.toList.take (i + 1)).map mirB).toArray.toList
  rw [List.take_succ_eq_append_getElem hl]
  simp only [ByteArray.data_append, Array.toList_append, hb, List.map_append, List.map_cons, List.map_nil]
  rfl
theorem mirPre_all (s : ByteArray) : mirPre s s.size = mirS s := by
  refine bs_ext ?_
  show ((s.data.toList.take s.size).map mirB).toArray.toList = (s.data.map mirB).toList
  rw [List.take_of_length_le (by rw [Array.length_toList]; exact Nat.le_refl _)]
  simp
theorem ext_one (s : ByteArray) (i : Nat) (h : i < s.size) : (s.extract i (i + 1)).data.toList = [s.data.toList[i]'(by rw [Array.length_toList]; exact h)] := by
  have hl : i < s.data.toList.length := by rw [Array.length_toList]; exact h
  rw [ByteArray.data_extract, Array.toList_extract, List.extract_eq_take_drop, show i + 1 - i = 1 by omega, List.drop_eq_getElem_cons hl]
  rfl
theorem mirror_from (s : ByteArray) (n : Int) (hs : s.size ≤ 1000000) : ∀ (d i : Nat), s.size - i = d → i ≤ s.size → Ev (fun k => spec_mvMirror.l0 k (mirPre s i) (i : Int) s n) (mirS s, n)
  | 0, i, hd, hi => by
    have e : i = s.size := by omega
    subst e
    refine Ev.step (f := fun _ => some (mirS s, n)) (fun k => ?_) (Ev.now _)
    simp only [spec_mvMirror.l0]
    rw [if_neg (by omega), mirPre_all]
  | d + 1, i, hd, hi => by
    have hlt : i < s.size := by omega
    have hl : i < s.data.toList.length := by rw [Array.length_toList]; exact hlt
    have hw : wrap64 ((i : Int) + 1) = ((i + 1 : Nat) : Int) := w64_succ (by omega)
    have ih := mirror_from s n hs d (i + 1) (by omega) (by omega)
    have hz := mirPre_size s i hi
    have hb := mir_bt s i hlt
    refine Ev.step (fun k => ?_) ih
    simp only [spec_mvMirror.l0, hw, hb, hz]
    rw [if_pos (by omega), if_pos (by omega), if_pos (by omega)]
    obtain ⟨c, hc⟩ : ∃ c, s.data.toList[i] = c := ⟨_, rfl⟩
    rw [hc]
    by_cases h1 : c = 108
    · rw [if_pos (by rw [h1]; rfl), if_pos (by omega), mirPre_succ s i hlt ⟨#[114]⟩ (by rw [hc, h1]; rfl)]
    · have e1 : ¬ ((c.toNat : Int) = 108) := fun x => h1 (UInt8.toNat_inj.1 (by show c.toNat = 108; omega))
      rw [if_neg e1]
      by_cases h2 : c = 114
      · rw [if_pos (by rw [h2]; rfl), if_pos (by omega), mirPre_succ s i hlt ⟨#[108]⟩ (by rw [hc, h2]; rfl)]
      · have e2 : ¬ ((c.toNat : Int) = 114) := fun x => h2 (UInt8.toNat_inj.1 (by show c.toNat = 114; omega))
        have hx := ext_one s i hlt
        have hxs : (s.extract i (i + 1)).size = 1 := by
          show (s.extract i (i + 1)).data.size = 1
          rw [← Array.length_toList, hx]; rfl
        rw [if_neg e2, if_pos (by omega), if_pos (by omega), if_pos (by omega), show ((i : Int)).toNat = i by omega, show (((i + 1 : Nat) : Int)).toNat = i + 1 by omega, hxs, if_pos (by omega), mirPre_succ s i hlt _ (by rw [hx, hc]; unfold mirB; rw [if_neg h1, if_neg h2])]
theorem spec_mirror_ev (s : ByteArray) (n : Int) (hs : s.size ≤ 1000000) : Ev (fun k => spec_mvMirror.f k s n) (mirS s, n) := by
  unfold spec_mvMirror.f
  exact mirror_from s n hs _ 0 rfl (Nat.zero_le _)
theorem impl_mirror (s : ByteArray) (n : Int) (hs : s.size ≤ 1000000) : impl_Move_mirrored.f s n = some (mirS s, n) := by
  unfold impl_Move_mirrored.f
  rw [if_pos hs]
/-- All steps, of texts and numbers that are small. -/
theorem spec_all_ev {s : ByteArray} {n : Int} (h1 : s.size ≤ 6) (h2 : 0 ≤ n) (h3 : n ≤ 3) : Ev (fun k => spec_mvAll.f k s n) (mvSt s n) := by
  have hn : n = (n.toNat : Int) := by omega
  have hm : n.toNat * s.size ≤ 3 * 6 := Nat.mul_le_mul (by omega) h1
  have := spec_mvTimes_ev s n.toNat (by omega) (by omega)
  rw [← hn] at this
  unfold mvSt
  refine Ev.congr (fun k => ?_) this
  unfold spec_mvAll.f
  cases spec_mvTimes.f k s n <;> rfl
theorem impl_all' {s : ByteArray} {n : Int} (h1 : s.size ≤ 6) (h2 : 0 ≤ n) (h3 : n ≤ 3) : impl_Move_all.f s n = some (mvSt s n) := by
  have hn : n = (n.toNat : Int) := by omega
  have hm : s.size * n.toNat ≤ 6 * 3 := Nat.mul_le_mul h1 (by omega)
  have := impl_rep s n.toNat (by omega) (by omega)
  rw [← hn] at this
  unfold impl_Move_all.f
  rw [this]
  rfl
end Go.Proofs.YtolhmpagpoidjaaGreat.PA
