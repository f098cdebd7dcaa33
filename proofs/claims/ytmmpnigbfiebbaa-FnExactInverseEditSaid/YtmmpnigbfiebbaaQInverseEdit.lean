/- The plain law of inverse edits. -/
import Derived.Test.YtmmpnigbfiebbaaPAx1
import Derived.Test.YtmmpnigbfiebbaaPAx4
import Derived.Test.YtmmpnigbfiebbaaPAx5
import Derived.Test.YtmmpnigbfiebbaaQGloss
namespace Go.Proofs.Ytmmpnigbfiebbaa.PA
open Go.RowKit Go.Proofs.YtmmpnigbfiebbaaW.PrintWords Go.Proofs.YtmmpnigbfiebbaaW.PrintLast Go.Proofs.YtmmpnigbfiebbaaW.PrintMore
set_option linter.unusedVariables false
set_option linter.unusedSimpArgs false
def ivV (a0 a1 : Int) (a2 a3 : ByteArray) : Int × Int × ByteArray × ByteArray × Bool := if deV a0 a1 a2 a3 = true then (ieKind a0, a1, a3, a2, true) else (0, 0, ⟨#[]⟩, ⟨#[]⟩, false)
theorem spec_InverseEdit_ev (a0 a1 : Int) (a2 a3 : ByteArray) (h2 : a2.size < 9223372036854775807) (h3 : a3.size < 9223372036854775807) : Ev (fun k => spec_InverseEdit.f k a0 a1 a2 a3) (ivV a0 a1 a2 a3) := by
  unfold spec_InverseEdit.f ivV
  refine Ev.bind (spec_unEdit_ev a0 a1 a2 a3 h2 h3) ?_
  by_cases h : deV a0 a1 a2 a3 = true
  · simp only [if_pos h]
    rcases deV_kind h with rfl | rfl | rfl
    · exact Ev.now _
    · exact Ev.now _
    · exact Ev.now _
  · simp only [if_neg h]; exact Ev.now _
theorem impl_InverseEdit_ev (a0 a1 : Int) (a2 a3 : ByteArray) (h2 : a2.size < 9223372036854775807) (h3 : a3.size < 9223372036854775807) : Ev (fun k => impl_InverseEdit.f k a0 a1 a2 a3) (ivV a0 a1 a2 a3) := by
  unfold impl_InverseEdit.f ivV
  refine Ev.bind (impl_isDeskEdit_ev a0 a1 a2 a3 h2 h3) ?_
  by_cases h : deV a0 a1 a2 a3 = true
  · simp only [if_pos h, if_pos (deV_kind h)]; exact Ev.now _
  · simp only [if_neg h]; exact Ev.now _
theorem szDeskEdit_small (a0 a1 : Int) (a2 a3 : ByteArray) (a : Int) (h2 : a2.size ≤ 9223372036854775807) (h3 : a3.size ≤ 9223372036854775807) (h0 : 0 ≤ a) (h1 : a ≤ 1048576) (h : (a2.size : Int) + (a3.size : Int) ≤ a) : laws_szDeskEdit.f a0 a1 a2 a3 a = some (a - (a2.size : Int) - (a3.size : Int)) := by
  unfold laws_szDeskEdit.f
  rw [w64_i (by omega) (by omega), w64_i (by omega) (by omega), if_neg (by omega), if_neg (by omega)]
theorem szDeskEdit_big (a0 a1 : Int) (a2 a3 : ByteArray) (a : Int) (h2 : a2.size ≤ 9223372036854775807) (h3 : a3.size ≤ 9223372036854775807) (h0 : 0 ≤ a) (h1 : a ≤ 1048576) (h : a < (a2.size : Int) + (a3.size : Int)) : laws_szDeskEdit.f a0 a1 a2 a3 a = some (-1) := by
  unfold laws_szDeskEdit.f
  rw [w64_i (x := a - (a2.size : Int)) (by omega) (by omega)]
  by_cases e : a - (a2.size : Int) < 0
  · rw [if_pos e]
  · rw [if_neg e, w64_i (by omega) (by omega), if_pos (by omega)]
theorem eqDeskEdit_same (a0 a1 : Int) (a2 a3 : ByteArray) : laws_eqDeskEdit.f a0 a1 a2 a3 a0 a1 a2 a3 = some true := by
  unfold laws_eqDeskEdit.f; simp
end Go.Proofs.Ytmmpnigbfiebbaa.PA
