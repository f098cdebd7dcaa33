-- Written by a program of this session (wip/tools/myprint.py). Not trusted: Lean checks it.
import Derived.Test.YtojfncpjgpklhaaGreatDoorCtx
import Derived.Test.YtojfncpjgpklhaaGreatDoorPAx4
namespace Go.Proofs.YtojfncpjgpklhaaGreatDoor.PA
open Go.RowKit Go.Proofs.YtojfncpjgpklhaaGreatDoorW.PrintWords Go.Proofs.YtojfncpjgpklhaaGreatDoorW.PrintLast Go.Proofs.YtojfncpjgpklhaaGreatDoorW.PrintMore
attribute [local go_sem] max2_int min2_int max_two min_two max_three min_three max_four min_four   -- for this text's walks alone
set_option linter.unusedVariables false
set_option linter.unusedSimpArgs false

/-! ### spec_paList: function 76 -/

def spec_paList.l0 : Nat → List (S44) → List (S44) → Int → Int → Option (Bool)
  | 0, _, _, _, _ => none
  | k + 1, x0, x5, x6, x7 => if x7 < x6 then (if 0 ≤ x7 then (if x7 < (x5.length : Int) then ((spec_siGood.f k ((rd_T44 x5 x7).f0.f0.f0) ((rd_T44 x5 x7).f0.f0.f1) ((rd_T44 x5 x7).f0.f0.f2) ((rd_T44 x5 x7).f0.f0.f3) ((rd_T44 x5 x7).f0.f0.f4) ((rd_T44 x5 x7).f0.f0.f5) ((rd_T44 x5 x7).f0.f1.f0) ((rd_T44 x5 x7).f0.f1.f1) ((rd_T44 x5 x7).f0.f2.f0) ((rd_T44 x5 x7).f0.f2.f1) ((rd_T44 x5 x7).f0.f2.f2) ((rd_T44 x5 x7).f0.f3.f0) ((rd_T44 x5 x7).f0.f3.f1) ((rd_T44 x5 x7).f1) ((rd_T44 x5 x7).f2.f0.f0) ((rd_T44 x5 x7).f2.f0.f1) ((rd_T44 x5 x7).f2.f0.f2) ((rd_T44 x5 x7).f2.f0.f3) ((rd_T44 x5 x7).f2.f0.f4) ((rd_T44 x5 x7).f2.f0.f5) ((rd_T44 x5 x7).f2.f1.f0) ((rd_T44 x5 x7).f2.f1.f1) ((rd_T44 x5 x7).f2.f2.f0) ((rd_T44 x5 x7).f2.f2.f1) ((rd_T44 x5 x7).f2.f2.f2) ((rd_T44 x5 x7).f2.f3.f0) ((rd_T44 x5 x7).f2.f3.f1)).bind fun t205 => (if t205 = true then (spec_paList.l0 k x0 x5 x6 (wrap64 (x7 + 1))) else (some false))) else (none)) else (none)) else (some (decide ((x0.length : Int) ≤ 20)))

def spec_paList.f (k : Nat) (l0 : List (S44)) : Option (Bool) := spec_paList.l0 k l0 l0 (l0.length : Int) 0

theorem spec_paList.mono_l : ∀ k, (∀ y0 y1 y2 y3, LeO (spec_paList.l0 k y0 y1 y2 y3) (spec_paList.l0 (k + 1) y0 y1 y2 y3))
  | 0 => fun _ _ _ _ r h => by simp [spec_paList.l0] at h
  | k + 1 => by
    have ih0 := spec_paList.mono_l k
    · intro y0 y1 y2 y3
      unfold spec_paList.l0
      repeat' first
      | (with_reducible exact ih0 _ _ _ _)
      | (with_reducible exact spec_siGood.mono _ _ _ _ _ _ _ _ _ _ _ _ _ _ _ _ _ _ _ _ _ _ _ _ _ _ _ _)
      | (with_reducible exact LeO.refl _)
      | (with_reducible exact LeO.none _)
      | (with_reducible refine LeO.ite ?_ ?_)
      | (with_reducible refine LeO.bind ?_ (fun _ => ?_))
      | exact ih0 _ _ _ _
      | exact spec_siGood.mono _ _ _ _ _ _ _ _ _ _ _ _ _ _ _ _ _ _ _ _ _ _ _ _ _ _ _ _
      | exact LeO.none _
      | refine LeO.ite ?_ ?_
      | refine LeO.bind ?_ (fun _ => ?_)

theorem spec_paList.mono : ∀ a0 k, LeO (spec_paList.f k a0) (spec_paList.f (k + 1) a0) := by
  intro a0 k
  have ih0 := spec_paList.mono_l k
  unfold spec_paList.f
  repeat' first
      | (with_reducible exact ih0 _ _ _ _)
      | (with_reducible exact spec_siGood.mono _ _ _ _ _ _ _ _ _ _ _ _ _ _ _ _ _ _ _ _ _ _ _ _ _ _ _ _)
      | (with_reducible exact LeO.refl _)
      | (with_reducible exact LeO.none _)
      | (with_reducible refine LeO.ite ?_ ?_)
      | (with_reducible refine LeO.bind ?_ (fun _ => ?_))
      | exact ih0 _ _ _ _
      | exact spec_siGood.mono _ _ _ _ _ _ _ _ _ _ _ _ _ _ _ _ _ _ _ _ _ _ _ _ _ _ _ _
      | exact LeO.none _
      | refine LeO.ite ?_ ?_
      | refine LeO.bind ?_ (fun _ => ?_)

def spec_paList.e (k : Nat) : Refl.Ent G := ⟨76, [(.c (.row 44 false))], .one (.c .bool), fun x => spec_paList.f k x⟩
def spec_paList.pl0 : Refl.Pn G (Refl.PT G (spec_paList.e 0).ol) := ⟨true, 0, ⟨[(0, .v (.c (.row 44 false))), (5, .v (.c (.row 44 false))), (6, .v (.c li)), (7, .v (.c li)), (2, .k (Value.bool false))], []⟩, fun k x => spec_paList.l0 k x.1 x.2.1 x.2.2.1 x.2.2.2⟩
theorem spec_paList.ok (k : Nat) : Refl.EntOK Tryz.prog (spec_paList.e k) := Refl.ent_ok 1000000 k GC (fun k => [spec_siGood.e k]) (fun k => ⟨spec_siGood.ok k, trivial⟩) Tryz.func76 (by kernel_rfl) [spec_paList.pl0] (ps := [spec_paList.pl0]) (by kernel_rfl) ⟨⟨fun x => by kernel_rfl, fun k x => by kernel_rfl⟩, trivial⟩ (fun x => by kernel_rfl)

/-! ### spec_cmGood: function 39 -/

def spec_cmGood.f (k : Nat) (l0 : List (S44)) : Option (Bool) := (spec_l1In.f (l0.length : Int) 2 4).bind fun t206 => (if t206 = true then ((spec_paList.f k l0).bind fun t207 => (some t207)) else (some false))

theorem spec_cmGood.mono : ∀ a0 k, LeO (spec_cmGood.f k a0) (spec_cmGood.f (k + 1) a0) := by
  intro a0 k
  unfold spec_cmGood.f
  repeat' first
      | (with_reducible exact spec_paList.mono _ _)
      | (with_reducible exact LeO.refl _)
      | (with_reducible exact LeO.none _)
      | (with_reducible refine LeO.ite ?_ ?_)
      | (with_reducible refine LeO.bind ?_ (fun _ => ?_))
      | exact spec_paList.mono _ _
      | exact LeO.none _
      | refine LeO.ite ?_ ?_
      | refine LeO.bind ?_ (fun _ => ?_)

def spec_cmGood.e (k : Nat) : Refl.Ent G := ⟨39, [(.c (.row 44 false))], .one (.c .bool), fun x => spec_cmGood.f k x⟩
theorem spec_cmGood.ok (k : Nat) : Refl.EntOK Tryz.prog (spec_cmGood.e k) := Refl.ent_ok 1000000 k GC (fun k => [spec_l1In.e k, spec_paList.e k]) (fun k => ⟨spec_l1In.ok k, spec_paList.ok k, trivial⟩) Tryz.func39 (by kernel_rfl) [] (ps := []) (by kernel_rfl) trivial (fun x => by kernel_rfl)

end Go.Proofs.YtojfncpjgpklhaaGreatDoor.PA
