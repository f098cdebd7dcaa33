/- The plain law of the size and the comparison of one edit. -/
import Derived.Test.YtmmpnigbfiebbaaDoorPAx1
import Derived.Test.YtmmpnigbfiebbaaDoorQGloss
namespace Go.Proofs.YtmmpnigbfiebbaaDoor.PA
open Go.RowKit Go.Proofs.YtmmpnigbfiebbaaDoorW.PrintWords Go.Proofs.YtmmpnigbfiebbaaDoorW.PrintLast Go.Proofs.YtmmpnigbfiebbaaDoorW.PrintMore
set_option linter.unusedVariables false
set_option linter.unusedSimpArgs false
theorem szDeskEdit_small (a0 a1 : Int) (a2 a3 : ByteArray) (a : Int) (h2 : a2.size ≤ 9223372036854775807) (h3 : a3.size ≤ 9223372036854775807) (h0 : 0 ≤ a) (h1 : a ≤ 1048576) (h : (a2.size : Int) + (a3.size : Int) ≤ a) : laws_szDeskEdit.f a0 a1 a2 a3 a = some (a - (a2.size : Int) - (a3.size : Int)) := by
  unfold laws_szDeskEdit.f
  rw [w64_i (by omega) (by omega), w64_i (by omega) (by omega), if_neg (by omega), if_neg (by omega)]
theorem szDeskEdit_big (a0 a1 : Int) (a2 a3 : ByteArray) (a : Int) (h2 : a2.size ≤ 9223372036854775807) (h3 : a3.size ≤ 9223372036854775807) (h0 : 0 ≤ a) (h1 : a ≤ 1048576) (h : a < (a2.size : Int) + (a3.size : Int)) : laws_szDeskEdit.f a0 a1 a2 a3 a = some (-1) := by
  unfold laws_szDeskEdit.f
  rw [w64_i (x := a - (a2.size : Int)) (by omega) (by omega)]
  by_cases e : a - (a2.size : Int) < 0
  · rw [if_pos e]
  · rw [if_neg e, w64_i (by omega) (by omega), if_pos (by omega)]
end Go.Proofs.YtmmpnigbfiebbaaDoor.PA
