/- The words of the print, as far as this seat's texts reach them (wip/tools/prune.py). -/
import Derived.Test.YtcicpmhcmlfhbaaGreatDoorWN
namespace Go.Proofs.YtcicpmhcmlfhbaaGreatDoorW.PrintWords
open Go.RowKit
namespace Kd
section
variable {α : Type} {d : Kd α} {W : World} {g n : Nat} {S ok : Nat → Prop} {A : Option Addr} {ad : Addr} {xs : List α}
end
end Kd
end Go.Proofs.YtcicpmhcmlfhbaaGreatDoorW.PrintWords
