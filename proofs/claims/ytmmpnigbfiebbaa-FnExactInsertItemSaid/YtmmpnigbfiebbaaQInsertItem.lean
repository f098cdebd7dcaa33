/- The plain law of InsertItem. -/
import Derived.Test.YtmmpnigbfiebbaaPAx24
import Derived.Test.YtmmpnigbfiebbaaQEdited
namespace Go.Proofs.Ytmmpnigbfiebbaa.PA
open Go.RowKit Go.Proofs.YtmmpnigbfiebbaaW.PrintWords Go.Proofs.YtmmpnigbfiebbaaW.PrintLast Go.Proofs.YtmmpnigbfiebbaaW.PrintMore
set_option linter.unusedVariables false
set_option linter.unusedSimpArgs false
def inV (a : List ByteArray) (b c : List S25) (i : Int) (g : ByteArray) : List ByteArray × List S25 × List S25 × Bool := if gdV a b c = true then edV a b ⟨0, i, g, ⟨#[]⟩⟩ else noD
theorem inV_len (a : List ByteArray) (b c : List S25) (i : Int) (g : ByteArray) : Short (inV a b c i g) := by
  unfold inV
  split
  · rename_i h; exact edV_len h _
  · simp [noD, Short]
theorem spec_InsertItem_ev {a : List ByteArray} {b c : List S25} (hd : DOk a b c) (i : Int) (g : ByteArray) (hg : g.size ≤ 1048576) : Ev (fun k => spec_InsertItem.f k a b c i g) (inV a b c i g) := by
  unfold spec_InsertItem.f inV
  refine Ev.bind (spec_unGood_ev hd) ?_
  by_cases h : gdV a b c = true
  · simp only [if_pos h]
    refine Ev.bind (spec_enGloss_ev g (by omega)) ?_
    by_cases hg2 : glOK g = true
    · simp only [if_pos hg2]
      refine Ev.bind (spec_unDo_ev h hd ⟨0, i, g, ⟨#[]⟩⟩ hg (Nat.zero_le _)) ?_
      exact Ev.now _
    · simp only [if_neg hg2]
      rw [edV_none (by
        unfold deV
        simp only [if_true]
        split
        · first | rfl | rw [if_neg hg2]
        · rfl)]
      exact Ev.now _
  · simp only [if_neg h]; exact Ev.now _
theorem impl_InsertItem_ev {a : List ByteArray} {b c : List S25} (hd : DOk a b c) (i : Int) (g : ByteArray) (hg : g.size ≤ 1048576) : Ev (fun k => impl_InsertItem.f k a b c i g) (inV a b c i g) := by
  unfold impl_InsertItem.f inV
  refine Ev.bind (impl_ItemsNow_ev hd) ?_
  by_cases h : gdV a b c = true
  · have g1 := gdV_items h
    have g2 := gdV_small h
    rw [now_iaV h]
    simp only [if_pos h, if_true]
    by_cases h30 : (b.length : Int) = 30
    · simp only [if_pos h30]
      unfold edV
      rw [if_pos h30]
      simp only [ite_self]
      exact Ev.now _
    · simp only [if_neg h30, clone_ok a g1, cloneE_ok b (by omega), Option.bind_some, impl_InsertItem.e]
      refine Ev.congr (fun k => if_pos (by omega)) ?_
      exact edited_ev h hd ⟨0, i, g, ⟨#[]⟩⟩ hg (Nat.zero_le _) h30
  · rw [bad_iaV h]
    simp only [if_neg h, Bool.false_eq_true, if_false]; exact Ev.now _
end Go.Proofs.Ytmmpnigbfiebbaa.PA
