/- The words of the print, as far as this seat's texts reach them (wip/tools/prune.py). -/
import Derived.Test.YtcicpmhcmlfhbaaGreatDoorWTab
namespace Go.Proofs.YtcicpmhcmlfhbaaGreatDoorW.PrintLast
section
variable {P : Program} {ops : Array Oper} {Q : Exit → Act → World → Prop} {md : Region.Mode} {S : World → Prop} {ds : List Nat} {T : Bool × List (List Nat × List Nat)}
end
end Go.Proofs.YtcicpmhcmlfhbaaGreatDoorW.PrintLast
