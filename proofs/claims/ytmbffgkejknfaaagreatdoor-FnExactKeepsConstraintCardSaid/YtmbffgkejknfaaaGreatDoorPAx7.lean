-- Written by a program of this session (wip/tools/myprint.py). Not trusted: Lean checks it.
import Derived.Test.YtmbffgkejknfaaaGreatDoorCtx
namespace Go.Proofs.YtmbffgkejknfaaaGreatDoor.PA
open Go.RowKit Go.Proofs.YtmbffgkejknfaaaGreatDoorW.PrintWords Go.Proofs.YtmbffgkejknfaaaGreatDoorW.PrintLast Go.Proofs.YtmbffgkejknfaaaGreatDoorW.PrintMore
attribute [local go_sem] max2_int min2_int max_two min_two max_three min_three max_four min_four   -- for this text's walks alone
set_option linter.unusedVariables false
set_option linter.unusedSimpArgs false

/-! ### spec_l1Most: function 97 -/

def spec_l1Most.f (a0 : Int) (a1 : Int) : Option (Int) := if a0 > a1 then (some a0) else (some a1)

def spec_l1Most.e (k : Nat) : Refl.Ent G := ⟨97, [(.c li), (.c li)], .one (.c li), fun x => spec_l1Most.f x.1 x.2⟩
theorem spec_l1Most.ok (k : Nat) : Refl.EntOK Tryz.prog (spec_l1Most.e k) := Refl.ent_ok 1000000 k GC (fun k => []) (fun k => trivial) Tryz.func97 (by kernel_rfl) [] (ps := []) (by kernel_rfl) trivial (fun x => by kernel_rfl)

end Go.Proofs.YtmbffgkejknfaaaGreatDoor.PA
