/- The plain law of ReplaceItem. -/
import Derived.Test.YtmmpnigbfiebbaaPAx28
import Derived.Test.YtmmpnigbfiebbaaPAx12
import Derived.Test.YtmmpnigbfiebbaaPAx5
import Derived.Test.YtmmpnigbfiebbaaQEdited
namespace Go.Proofs.Ytmmpnigbfiebbaa.PA
open Go.RowKit Go.Proofs.YtmmpnigbfiebbaaW.PrintWords Go.Proofs.YtmmpnigbfiebbaaW.PrintLast Go.Proofs.YtmmpnigbfiebbaaW.PrintMore
set_option linter.unusedVariables false
set_option linter.unusedSimpArgs false
def atV (l : List ByteArray) (i : Int) : ByteArray := if 0 ≤ i ∧ i ≤ (l.length : Int) - 1 then rdOf ByteArray.empty l i else ⟨#[]⟩
theorem itemAt_val (l : List ByteArray) (hl : l.length ≤ 20) (i : Int) : impl_itemAt.f l i = some (atV l i) := by
  unfold impl_itemAt.f atV
  rw [within_val, w64_i (by omega) (by omega), Option.bind_some]
  by_cases h : 0 ≤ i ∧ i ≤ (l.length : Int) - 1
  · rw [if_pos (decide_eq_true h), if_pos h.1, if_pos (by omega), if_pos h]
  · rw [if_neg (by simpa using h), if_neg h]
theorem atV_size {l : List ByteArray} {M : Nat} (h : ∀ x ∈ l, x.size ≤ M) (i : Int) : (atV l i).size ≤ M := by
  unfold atV
  split
  · rename_i hi
    obtain ⟨n, rfl⟩ : ∃ n : Nat, i = (n : Int) := ⟨i.toNat, by omega⟩
    rw [rdO l n (by omega)]
    exact h _ (List.getElem_mem ..)
  · exact Nat.zero_le _
theorem glOK_empty : glOK ⟨#[]⟩ = false := by decide
theorem spec_unAt_ev {a : List ByteArray} {b c : List S25} (h : gdV a b c = true) (hd : DOk a b c) (i : Int) : Ev (fun k => spec_unAt.f k a b c i) (if 0 ≤ i ∧ i ≤ ((nowV a b).length : Int) - 1 then (atV (nowV a b) i, true) else (⟨#[]⟩, false)) := by
  have hl := now_len h
  unfold spec_unAt.f atV
  refine Ev.bind (spec_unNow_ev hd (gdV_items h)) ?_
  show Ev (fun k => (spec_l1In.f i 0 (wrap64 (((nowV a b).length : Int) - 1))).bind _) _
  rw [in_val, w64_i (by omega) (by omega), Option.bind_some]
  by_cases hi : 0 ≤ i ∧ i ≤ ((nowV a b).length : Int) - 1
  · simp only [decide_eq_true hi, if_pos hi, if_true]
    have hi2 : i < ((umR (uaV a b)).1.length : Int) := by have := hi.2; unfold nowV at this; omega
    simp only [if_pos hi.1, if_pos hi2]
    exact Ev.now _
  · simp only [decide_eq_false hi, if_neg hi, Bool.false_eq_true, if_false]; exact Ev.now _
def rpV (a : List ByteArray) (b c : List S25) (i : Int) (g : ByteArray) : List ByteArray × List S25 × List S25 × Bool := if gdV a b c = true then edV a b ⟨2, i, g, atV (nowV a b) i⟩ else noD
theorem rpV_len (a : List ByteArray) (b c : List S25) (i : Int) (g : ByteArray) : Short (rpV a b c i g) := by
  unfold rpV
  split
  · rename_i h; exact edV_len h _
  · simp [noD, Short]
theorem spec_ReplaceItem_ev {a : List ByteArray} {b c : List S25} (hd : DOk a b c) (i : Int) (g : ByteArray) (hg : g.size ≤ 1048576) : Ev (fun k => spec_ReplaceItem.f k a b c i g) (rpV a b c i g) := by
  unfold spec_ReplaceItem.f rpV
  refine Ev.bind (spec_unGood_ev hd) ?_
  by_cases h : gdV a b c = true
  · simp only [if_pos h]
    refine Ev.bind (spec_enGloss_ev g (by omega)) ?_
    refine Ev.shift ?_
    simp only [spec_ReplaceItem.j0]
    by_cases hg2 : glOK g = true
    · simp only [hg2, Bool.not_true, Bool.false_eq_true, if_false]
      refine Ev.bind (spec_unAt_ev h hd i) ?_
      by_cases hi : 0 ≤ i ∧ i ≤ ((nowV a b).length : Int) - 1
      · simp only [if_pos hi, if_true]
        refine Ev.bind (spec_unDo_ev h hd ⟨2, i, g, atV (nowV a b) i⟩ hg (atV_size (now_items h hd) i)) ?_
        exact Ev.now _
      · simp only [if_neg hi, Bool.false_eq_true, if_false]
        rw [edV_none (by
          unfold deV atV
          simp only [if_neg hi, glOK_empty, Bool.false_eq_true, if_false, ite_self]
          split
          · first | rfl | (rw [if_neg (by decide), if_neg (by decide)]; simp)
          · rfl)]
        exact Ev.now _
    · have hg3 : glOK g = false := Bool.eq_false_iff.mpr hg2
      simp only [hg3, Bool.not_false, if_true]
      rw [edV_none (by
        unfold deV
        simp only [hg3, Bool.false_eq_true, if_false]
        split
        · first | rfl | (rw [if_neg (by decide), if_neg (by decide)]; simp)
        · rfl)]
      exact Ev.now _
  · simp only [if_neg h]
    refine Ev.shift ?_
    simp only [spec_ReplaceItem.j0, if_true]
    exact Ev.now _
theorem impl_ReplaceItem_ev {a : List ByteArray} {b c : List S25} (hd : DOk a b c) (i : Int) (g : ByteArray) (hg : g.size ≤ 1048576) : Ev (fun k => impl_ReplaceItem.f k a b c i g) (rpV a b c i g) := by
  unfold impl_ReplaceItem.f rpV
  refine Ev.bind (impl_ItemsNow_ev hd) ?_
  by_cases h : gdV a b c = true
  · have g1 := gdV_items h
    have g2 := gdV_small h
    rw [now_iaV h]
    simp only [if_pos h, if_true]
    by_cases h30 : (b.length : Int) = 30
    · simp only [if_pos h30]
      unfold edV
      rw [if_pos h30]
      simp only [ite_self]
      exact Ev.now _
    · simp only [if_neg h30, clone_ok a g1, cloneE_ok b (by omega), Option.bind_some, impl_ReplaceItem.e, itemAt_val _ (now_len h)]
      refine Ev.congr (fun k => if_pos (by omega)) ?_
      exact edited_ev h hd ⟨2, i, g, atV (nowV a b) i⟩ hg (atV_size (now_items h hd) i) h30
  · rw [bad_iaV h]
    simp only [if_neg h, Bool.false_eq_true, if_false]; exact Ev.now _
end Go.Proofs.Ytmmpnigbfiebbaa.PA
