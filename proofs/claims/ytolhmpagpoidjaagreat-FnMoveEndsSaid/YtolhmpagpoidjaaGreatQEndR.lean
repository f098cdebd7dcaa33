/- The plain law of where a movement ends: the reference's counts are the program's. -/
import Derived.Test.YtolhmpagpoidjaaGreatPAx1
import Derived.Test.YtolhmpagpoidjaaGreatQMoves
namespace Go.Proofs.YtolhmpagpoidjaaGreat.PA
open Go.RowKit Go.Proofs.YtolhmpagpoidjaaGreatW.PrintWords Go.Proofs.YtolhmpagpoidjaaGreatW.PrintLast Go.Proofs.YtolhmpagpoidjaaGreatW.PrintMore
set_option linter.unusedVariables false
set_option linter.unusedSimpArgs false
/-- How often a byte is in a text. -/
def cntB (s : ByteArray) (c : UInt8) : Int := (Lib.countByte s.data.toList c : Nat)
theorem cnt_call (s : ByteArray) (c : UInt8) : strings_Count.f s ⟨#[c]⟩ = some (cntB s c) := by
  unfold strings_Count.f
  rw [if_pos (by rfl)]
  rfl
/-- How far a movement leads. -/
def emV (al : ByteArray) : Int × Int × Int × Bool := (wrap64 (cntB al 114 - cntB al 108), wrap64 (cntB al 117 - cntB al 100), wrap64 (cntB al 102 - cntB al 98), true)
theorem em_call {s : ByteArray} {n : Int} (h : mvOK s n = true) (c d : UInt8) : em1.f ⟨#[c]⟩ ⟨#[d]⟩ s n = some (wrap64 (cntB (mvSt s n) c - cntB (mvSt s n) d)) := by
  unfold em1.f
  simp only [impl_all h, Option.bind_some, cnt_call]
theorem bt_list (s : ByteArray) (i : Nat) (h : i < s.size) : bt s (i : Int) = ((s.data.toList[i]'(by rw [Array.length_toList]; exact h)).toNat : Int) := by
  unfold bt
  rw [dif_pos (show ((i : Int)).toNat < s.size by omega)]
  simp [ByteArray.getElem_eq_getElem_data]
theorem cnt_from (s : ByteArray) (c : UInt8) (hs : s.size ≤ 1000) : ∀ (d i n : Nat), s.size - i = d → i ≤ s.size → n ≤ i → Ev (fun k => spec_mvCount.l0 k s (c.toNat : Int) (n : Int) (i : Int)) (((n + (s.data.toList.drop i).count c : Nat)) : Int) := by
  intro d
  induction d with
  | zero =>
    intro i n hd hi hn
    refine Ev.step (f := fun _ => some (n : Int)) (fun k => ?_) ?_
    · simp only [spec_mvCount.l0]
      rw [if_neg (by omega)]
    · rw [List.drop_eq_nil_of_le (by rw [Array.length_toList]; show s.size ≤ i; omega)]
      exact Ev.now _
  | succ d ih =>
    intro i n hd hi hn
    have hlt : i < s.size := by omega
    have hl : i < s.data.toList.length := by rw [Array.length_toList]; exact hlt
    rw [List.drop_eq_getElem_cons hl, List.count_cons]
    by_cases h : s.data.toList[i] = c
    · have := ih (i + 1) (n + 1) (by omega) (by omega) (by omega)
      refine Ev.step (fun k => ?_) (by
        rw [show n + ((s.data.toList.drop (i + 1)).count c + if (s.data.toList[i] == c) = true then 1 else 0) = (n + 1) + (s.data.toList.drop (i + 1)).count c by rw [h]; simp; omega]
        exact this)
      simp only [spec_mvCount.l0]
      rw [if_pos (by omega), if_pos (by omega), if_pos (by omega), if_pos (by rw [bt_list s i hlt, h]), w64_succ (by omega), w64_succ (by omega)]
    · have := ih (i + 1) n (by omega) (by omega) (by omega)
      refine Ev.step (fun k => ?_) (by
        rw [show n + ((s.data.toList.drop (i + 1)).count c + if (s.data.toList[i] == c) = true then 1 else 0) = n + (s.data.toList.drop (i + 1)).count c by rw [if_neg (by simpa using h)]; omega]
        exact this)
      simp only [spec_mvCount.l0]
      rw [if_pos (by omega), if_pos (by omega), if_pos (by omega), if_neg (by rw [bt_list s i hlt]; intro e; apply h; exact UInt8.toNat_inj.1 (by omega)), w64_succ (by omega)]
theorem spec_mvCount_ev (s : ByteArray) (c : UInt8) (hs : s.size ≤ 1000) : Ev (fun k => spec_mvCount.f k s (c.toNat : Int)) (cntB s c) := by
  have := cnt_from s c hs s.size 0 0 (by omega) (by omega) (by omega)
  rw [Nat.zero_add, List.drop_zero] at this
  exact this
def eeV (s : ByteArray) (n : Int) : Int × Int × Int × Bool := if mvOK s n = true then emV (mvSt s n) else (0, 0, 0, false)
theorem spec_EndOfMove_ev (s : ByteArray) (n : Int) (hs : s.size ≤ 1048576) : Ev (fun k => spec_EndOfMove.f k s n) (eeV s n) := by
  unfold spec_EndOfMove.f eeV
  refine Ev.bind (spec_mvGood_ev s n (by omega)) ?_
  by_cases h : mvOK s n = true
  · simp only [h, if_true]
    have hz := mvSt_size h
    exact Ev.bind (spec_mvAll_ev h) (Ev.bind (spec_mvCount_ev _ 114 (by omega)) (Ev.bind (spec_mvCount_ev _ 108 (by omega)) (Ev.bind (spec_mvCount_ev _ 117 (by omega)) (Ev.bind (spec_mvCount_ev _ 100 (by omega)) (Ev.bind (spec_mvCount_ev _ 102 (by omega)) (Ev.bind (spec_mvCount_ev _ 98 (by omega)) (Ev.now _)))))))
  · simp only [h, if_false]
    exact Ev.now _
theorem impl_EndOfMove_ev (s : ByteArray) (n : Int) (hs : s.size ≤ 1048576) : Ev (fun k => impl_EndOfMove.f k s n) (eeV s n) := by
  unfold impl_EndOfMove.f eeV
  refine Ev.bind (impl_IsMove_ev s n (by omega)) ?_
  by_cases h : mvOK s n = true
  · simp only [h, if_true, em_call h, Option.bind_some]
    exact Ev.now _
  · simp only [h, if_false]
    exact Ev.now _
end Go.Proofs.YtolhmpagpoidjaaGreat.PA
