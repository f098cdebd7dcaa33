-- Written by a program of this session (wip/tools/myprint.py). Not trusted: Lean checks it.
import Derived.Test.YtojfncpjgpklhaaGreatDoorCtx
namespace Go.Proofs.YtojfncpjgpklhaaGreatDoor.PA
open Go.RowKit Go.Proofs.YtojfncpjgpklhaaGreatDoorW.PrintWords Go.Proofs.YtojfncpjgpklhaaGreatDoorW.PrintLast Go.Proofs.YtojfncpjgpklhaaGreatDoorW.PrintMore
attribute [local go_sem] max2_int min2_int max_two min_two max_three min_three max_four min_four   -- for this text's walks alone
set_option linter.unusedVariables false
set_option linter.unusedSimpArgs false

/-! ### spec_cmSame: function 40 -/

def spec_cmSame.l0 : Nat → List (S44) → List (S44) → List (S44) → Int → Int → Option (Bool)
  | 0, _, _, _, _, _ => none
  | k + 1, x0, x1, x7, x8, x9 => if x9 < x8 then (if 0 ≤ x9 then (if x9 < (x7.length : Int) then (if x9 < (x1.length : Int) then (if 0 ≤ x9 then (if x9 < (x1.length : Int) then (if ((((((rd_T44 x7 x9).f0.f0.f0) == ((rd_T44 x1 x9).f0.f0.f0) && (((rd_T44 x7 x9).f0.f0.f1) == ((rd_T44 x1 x9).f0.f0.f1) && (((rd_T44 x7 x9).f0.f0.f2) == ((rd_T44 x1 x9).f0.f0.f2) && (((rd_T44 x7 x9).f0.f0.f3) == ((rd_T44 x1 x9).f0.f0.f3) && (((rd_T44 x7 x9).f0.f0.f4) == ((rd_T44 x1 x9).f0.f0.f4) && (((rd_T44 x7 x9).f0.f0.f5) == ((rd_T44 x1 x9).f0.f0.f5))))))) && ((((rd_T44 x7 x9).f0.f1.f0) == ((rd_T44 x1 x9).f0.f1.f0) && (((rd_T44 x7 x9).f0.f1.f1) == ((rd_T44 x1 x9).f0.f1.f1))) && ((((rd_T44 x7 x9).f0.f2.f0) == ((rd_T44 x1 x9).f0.f2.f0) && (((rd_T44 x7 x9).f0.f2.f1) == ((rd_T44 x1 x9).f0.f2.f1) && (((rd_T44 x7 x9).f0.f2.f2) == ((rd_T44 x1 x9).f0.f2.f2)))) && (((((rd_T44 x7 x9).f0.f3.f0).toList) == (((rd_T44 x1 x9).f0.f3.f0).toList) && (((rd_T44 x7 x9).f0.f3.f1) == ((rd_T44 x1 x9).f0.f3.f1))))))) && (((rd_T44 x7 x9).f1) == ((rd_T44 x1 x9).f1) && (((((rd_T44 x7 x9).f2.f0.f0) == ((rd_T44 x1 x9).f2.f0.f0) && (((rd_T44 x7 x9).f2.f0.f1) == ((rd_T44 x1 x9).f2.f0.f1) && (((rd_T44 x7 x9).f2.f0.f2) == ((rd_T44 x1 x9).f2.f0.f2) && (((rd_T44 x7 x9).f2.f0.f3) == ((rd_T44 x1 x9).f2.f0.f3) && (((rd_T44 x7 x9).f2.f0.f4) == ((rd_T44 x1 x9).f2.f0.f4) && (((rd_T44 x7 x9).f2.f0.f5) == ((rd_T44 x1 x9).f2.f0.f5))))))) && ((((rd_T44 x7 x9).f2.f1.f0) == ((rd_T44 x1 x9).f2.f1.f0) && (((rd_T44 x7 x9).f2.f1.f1) == ((rd_T44 x1 x9).f2.f1.f1))) && ((((rd_T44 x7 x9).f2.f2.f0) == ((rd_T44 x1 x9).f2.f2.f0) && (((rd_T44 x7 x9).f2.f2.f1) == ((rd_T44 x1 x9).f2.f2.f1) && (((rd_T44 x7 x9).f2.f2.f2) == ((rd_T44 x1 x9).f2.f2.f2)))) && (((((rd_T44 x7 x9).f2.f3.f0).toList) == (((rd_T44 x1 x9).f2.f3.f0).toList) && (((rd_T44 x7 x9).f2.f3.f1) == ((rd_T44 x1 x9).f2.f3.f1)))))))))) = true) then (spec_cmSame.l0 k x0 x1 x7 x8 (wrap64 (x9 + 1))) else (some false)) else (none)) else (none)) else (spec_cmSame.l0 k x0 x1 x7 x8 (wrap64 (x9 + 1)))) else (none)) else (none)) else (some ((x0.length : Int) == (x1.length : Int)))

def spec_cmSame.f (k : Nat) (l0 : List (S44)) (l1 : List (S44)) : Option (Bool) := spec_cmSame.l0 k l0 l1 l0 (l0.length : Int) 0

theorem spec_cmSame.mono_l : ∀ k, (∀ y0 y1 y2 y3 y4, LeO (spec_cmSame.l0 k y0 y1 y2 y3 y4) (spec_cmSame.l0 (k + 1) y0 y1 y2 y3 y4))
  | 0 => fun _ _ _ _ _ r h => by simp [spec_cmSame.l0] at h
  | k + 1 => by
    have ih0 := spec_cmSame.mono_l k
    · intro y0 y1 y2 y3 y4
      unfold spec_cmSame.l0
      repeat' first
      | (with_reducible exact ih0 _ _ _ _ _)
      | (with_reducible exact LeO.refl _)
      | (with_reducible exact LeO.none _)
      | (with_reducible refine LeO.ite ?_ ?_)
      | (with_reducible refine LeO.bind ?_ (fun _ => ?_))
      | exact ih0 _ _ _ _ _
      | exact LeO.none _
      | refine LeO.ite ?_ ?_
      | refine LeO.bind ?_ (fun _ => ?_)

theorem spec_cmSame.mono : ∀ a0 a1 k, LeO (spec_cmSame.f k a0 a1) (spec_cmSame.f (k + 1) a0 a1) := by
  intro a0 a1 k
  have ih0 := spec_cmSame.mono_l k
  unfold spec_cmSame.f
  repeat' first
      | (with_reducible exact ih0 _ _ _ _ _)
      | (with_reducible exact LeO.refl _)
      | (with_reducible exact LeO.none _)
      | (with_reducible refine LeO.ite ?_ ?_)
      | (with_reducible refine LeO.bind ?_ (fun _ => ?_))
      | exact ih0 _ _ _ _ _
      | exact LeO.none _
      | refine LeO.ite ?_ ?_
      | refine LeO.bind ?_ (fun _ => ?_)

def spec_cmSame.e (k : Nat) : Refl.Ent G := ⟨40, [(.c (.row 44 false)), (.c (.row 44 false))], .one (.c .bool), fun x => spec_cmSame.f k x.1 x.2⟩
def spec_cmSame.pl0 : Refl.Pn G (Refl.PT G (spec_cmSame.e 0).ol) := ⟨true, 0, ⟨[(0, .v (.c (.row 44 false))), (1, .v (.c (.row 44 false))), (7, .v (.c (.row 44 false))), (8, .v (.c li)), (9, .v (.c li)), (4, .k (Value.bool false))], []⟩, fun k x => spec_cmSame.l0 k x.1 x.2.1 x.2.2.1 x.2.2.2.1 x.2.2.2.2⟩
theorem spec_cmSame.ok (k : Nat) : Refl.EntOK Tryz.prog (spec_cmSame.e k) := Refl.ent_ok 1000000 k GC (fun k => []) (fun k => trivial) Tryz.func40 (by kernel_rfl) [spec_cmSame.pl0] (ps := [spec_cmSame.pl0]) (by kernel_rfl) ⟨⟨fun x => by kernel_rfl, fun k x => by kernel_rfl⟩, trivial⟩ (fun x => by kernel_rfl)

end Go.Proofs.YtojfncpjgpklhaaGreatDoor.PA
