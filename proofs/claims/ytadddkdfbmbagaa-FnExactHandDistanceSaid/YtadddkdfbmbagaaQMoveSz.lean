/- The plain law of a movement's size. -/
import Derived.Test.YtadddkdfbmbagaaPAx1
import Derived.Test.YtadddkdfbmbagaaQMove
namespace Go.Proofs.Ytadddkdfbmbagaa.PA
open Go.RowKit Go.Proofs.YtadddkdfbmbagaaW.PrintWords Go.Proofs.YtadddkdfbmbagaaW.PrintLast Go.Proofs.YtadddkdfbmbagaaW.PrintMore
set_option linter.unusedVariables false
set_option linter.unusedSimpArgs false
theorem szMove_small (s : ByteArray) (n a : Int) (hs : s.size ≤ 9223372036854775807) (h0 : 0 ≤ a) (h1 : a ≤ 1048576) (h : (s.size : Int) ≤ a) : laws_szMove.f s n a = some (a - (s.size : Int)) := by
  unfold laws_szMove.f
  rw [w64_i (by omega) (by omega), if_neg (by omega)]
theorem szMove_big (s : ByteArray) (n a : Int) (hs : s.size ≤ 9223372036854775807) (h0 : 0 ≤ a) (h1 : a ≤ 1048576) (h : a < (s.size : Int)) : laws_szMove.f s n a = some (-1) := by
  unfold laws_szMove.f
  rw [w64_i (by omega) (by omega), if_pos (by omega)]
theorem Ev.shift {α : Type} {g : Nat → Option α} {r : α} (h : Ev (fun k => g (k + 1)) r) : Ev g r := Ev.step (fun _ => rfl) h
end Go.Proofs.Ytadddkdfbmbagaa.PA
