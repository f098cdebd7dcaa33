/- The plain law of a desk with other lists of edits. -/
import Derived.Test.YtmmpnigbfiebbaaPAx8
import Derived.Test.YtmmpnigbfiebbaaQItems
namespace Go.Proofs.Ytmmpnigbfiebbaa.PA
open Go.RowKit Go.Proofs.YtmmpnigbfiebbaaW.PrintWords Go.Proofs.YtmmpnigbfiebbaaW.PrintLast Go.Proofs.YtmmpnigbfiebbaaW.PrintMore
set_option linter.unusedVariables false
set_option linter.unusedSimpArgs false
theorem unDesk_val (a : List ByteArray) (b c x y : List S25) (ha : a.length ≤ 1048576) (hx : x.length ≤ 1048576) (hy : y.length ≤ 1048576) : spec_unDesk.f a b c x y = some (a, x, y) := by
  unfold spec_unDesk.f
  simp only [Option.bind_some]
  rw [if_pos (by simp; omega), if_pos (by simp; omega), if_pos (by simp; omega)]
  rfl
def noD : List ByteArray × List S25 × List S25 × Bool := ([], [], [], false)
/-- Lists that are short. -/
def Short (v : List ByteArray × List S25 × List S25 × Bool) : Prop := v.1.length ≤ 1048576 ∧ v.2.1.length ≤ 1048576 ∧ v.2.2.1.length ≤ 1048576
end Go.Proofs.Ytmmpnigbfiebbaa.PA
