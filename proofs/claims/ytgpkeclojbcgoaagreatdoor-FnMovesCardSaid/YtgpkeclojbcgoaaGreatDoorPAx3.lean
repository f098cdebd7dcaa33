-- Written by a program of this session (wip/tools/myprint.py). Not trusted: Lean checks it.
import Derived.Test.YtgpkeclojbcgoaaGreatDoorCtx
import Derived.Test.YtgpkeclojbcgoaaGreatDoorPAx1
import Derived.Test.YtgpkeclojbcgoaaGreatDoorPAx2
namespace Go.Proofs.YtgpkeclojbcgoaaGreatDoor.PA
open Go.RowKit Go.Proofs.YtgpkeclojbcgoaaGreatDoorW.PrintWords Go.Proofs.YtgpkeclojbcgoaaGreatDoorW.PrintLast Go.Proofs.YtgpkeclojbcgoaaGreatDoorW.PrintMore
attribute [local go_sem] max2_int min2_int max_two min_two max_three min_three max_four min_four   -- for this text's walks alone
set_option linter.unusedVariables false
set_option linter.unusedSimpArgs false

attribute [local go_sem high] eqA51
/-! ### impl_SameMove: function 42 -/

def impl_SameMove.j0 : Nat → Bool → ByteArray → Int → ByteArray → Int → Option (Bool × Bool)
  | 0, _, _, _, _, _ => none
  | k + 1, x13, x348000, x348001, x349000, x349001 => if x13 = true then (some (false, false)) else ((impl_Move_all.f x348000 x348001).bind fun t351 => ((impl_Move_all.f x349000 x349001).bind fun t352 => (some ((t351.toList == t352.toList), true))))

def impl_SameMove.f (k : Nat) (a0_0 : ByteArray) (a0_1 : Int) (a1_0 : ByteArray) (a1_1 : Int) : Option (Bool × Bool) := (impl_IsMove.f k a0_0 a0_1).bind fun t349 => (if t349 = true then ((impl_IsMove.f k a1_0 a1_1).bind fun t350 => (impl_SameMove.j0 k (!t350) a0_0 a0_1 a1_0 a1_1)) else (impl_SameMove.j0 k true a0_0 a0_1 a1_0 a1_1))

theorem impl_SameMove.mono_l : ∀ k, (∀ y0 y1 y2 y3 y4, LeO (impl_SameMove.j0 k y0 y1 y2 y3 y4) (impl_SameMove.j0 (k + 1) y0 y1 y2 y3 y4))
  | 0 => fun _ _ _ _ _ r h => by simp [impl_SameMove.j0] at h
  | k + 1 => by
    have ih0 := impl_SameMove.mono_l k
    · intro y0 y1 y2 y3 y4
      unfold impl_SameMove.j0
      repeat' first
      | (with_reducible exact ih0 _ _ _ _ _)
      | (with_reducible exact impl_IsMove.mono _ _ _)
      | (with_reducible exact LeO.refl _)
      | (with_reducible exact LeO.none _)
      | (with_reducible refine LeO.ite ?_ ?_)
      | (with_reducible refine LeO.bind ?_ (fun _ => ?_))
      | exact ih0 _ _ _ _ _
      | exact impl_IsMove.mono _ _ _
      | exact LeO.none _
      | refine LeO.ite ?_ ?_
      | refine LeO.bind ?_ (fun _ => ?_)

theorem impl_SameMove.mono : ∀ a0 a1 a2 a3 k, LeO (impl_SameMove.f k a0 a1 a2 a3) (impl_SameMove.f (k + 1) a0 a1 a2 a3) := by
  intro a0 a1 a2 a3 k
  have ih0 := impl_SameMove.mono_l k
  unfold impl_SameMove.f
  repeat' first
      | (with_reducible exact ih0 _ _ _ _ _)
      | (with_reducible exact impl_IsMove.mono _ _ _)
      | (with_reducible exact LeO.refl _)
      | (with_reducible exact LeO.none _)
      | (with_reducible refine LeO.ite ?_ ?_)
      | (with_reducible refine LeO.bind ?_ (fun _ => ?_))
      | exact ih0 _ _ _ _ _
      | exact impl_IsMove.mono _ _ _
      | exact LeO.none _
      | refine LeO.ite ?_ ?_
      | refine LeO.bind ?_ (fun _ => ?_)

def impl_SameMove.e (k : Nat) : Refl.Ent G := ⟨42, [(.agg [.str, li]), (.agg [.str, li])], .tup [(.c .bool), (.c .bool)], fun x => impl_SameMove.f k x.1 x.2.1 x.2.2.1 x.2.2.2⟩
def impl_SameMove.pj0 : Refl.Pn G (Refl.PT G (impl_SameMove.e 0).ol) := ⟨false, 1000001, ⟨[(13, .v (.c .bool)), (2, .box 2 0), (3, .box 3 0), (4, .k (Value.bool false)), (5, .k (Value.bool false))], [(2, 51, gL2), (3, 51, gL2)]⟩, fun k x => impl_SameMove.j0 k x.1 x.2.1 x.2.2.1 x.2.2.2.1 x.2.2.2.2⟩
theorem impl_SameMove.ok (k : Nat) : Refl.EntOK Tryz.prog (impl_SameMove.e k) := Refl.ent_ok 1000000 k GC (fun k => [impl_IsMove.e k, impl_Move_all.e k]) (fun k => ⟨impl_IsMove.ok k, impl_Move_all.ok k, trivial⟩) Tryz.func42 (by kernel_rfl) [impl_SameMove.pj0] (ps := [impl_SameMove.pj0]) (by kernel_rfl) ⟨⟨fun x => by kernel_rfl, fun k x => by kernel_rfl⟩, trivial⟩ (fun x => by kernel_rfl)

/-! ### spec_SameMove: function 43 -/

def spec_SameMove.j0 : Nat → Bool → ByteArray → Int → ByteArray → Int → Option (Bool × Bool)
  | 0, _, _, _, _, _ => none
  | k + 1, x13, x354000, x354001, x355000, x355001 => if x13 = true then (some (false, false)) else ((spec_mvAll.f k x354000 x354001).bind fun t357 => ((spec_mvAll.f k x355000 x355001).bind fun t358 => (some ((t357.toList == t358.toList), true))))

def spec_SameMove.f (k : Nat) (a0_0 : ByteArray) (a0_1 : Int) (a1_0 : ByteArray) (a1_1 : Int) : Option (Bool × Bool) := (spec_mvGood.f k a0_0 a0_1).bind fun t355 => (if t355 = true then ((spec_mvGood.f k a1_0 a1_1).bind fun t356 => (spec_SameMove.j0 k (!t356) a0_0 a0_1 a1_0 a1_1)) else (spec_SameMove.j0 k true a0_0 a0_1 a1_0 a1_1))

theorem spec_SameMove.mono_l : ∀ k, (∀ y0 y1 y2 y3 y4, LeO (spec_SameMove.j0 k y0 y1 y2 y3 y4) (spec_SameMove.j0 (k + 1) y0 y1 y2 y3 y4))
  | 0 => fun _ _ _ _ _ r h => by simp [spec_SameMove.j0] at h
  | k + 1 => by
    have ih0 := spec_SameMove.mono_l k
    · intro y0 y1 y2 y3 y4
      unfold spec_SameMove.j0
      repeat' first
      | (with_reducible exact ih0 _ _ _ _ _)
      | (with_reducible exact spec_mvAll.mono _ _ _)
      | (with_reducible exact spec_mvGood.mono _ _ _)
      | (with_reducible exact LeO.refl _)
      | (with_reducible exact LeO.none _)
      | (with_reducible refine LeO.ite ?_ ?_)
      | (with_reducible refine LeO.bind ?_ (fun _ => ?_))
      | exact ih0 _ _ _ _ _
      | exact spec_mvAll.mono _ _ _
      | exact spec_mvGood.mono _ _ _
      | exact LeO.none _
      | refine LeO.ite ?_ ?_
      | refine LeO.bind ?_ (fun _ => ?_)

theorem spec_SameMove.mono : ∀ a0 a1 a2 a3 k, LeO (spec_SameMove.f k a0 a1 a2 a3) (spec_SameMove.f (k + 1) a0 a1 a2 a3) := by
  intro a0 a1 a2 a3 k
  have ih0 := spec_SameMove.mono_l k
  unfold spec_SameMove.f
  repeat' first
      | (with_reducible exact ih0 _ _ _ _ _)
      | (with_reducible exact spec_mvAll.mono _ _ _)
      | (with_reducible exact spec_mvGood.mono _ _ _)
      | (with_reducible exact LeO.refl _)
      | (with_reducible exact LeO.none _)
      | (with_reducible refine LeO.ite ?_ ?_)
      | (with_reducible refine LeO.bind ?_ (fun _ => ?_))
      | exact ih0 _ _ _ _ _
      | exact spec_mvAll.mono _ _ _
      | exact spec_mvGood.mono _ _ _
      | exact LeO.none _
      | refine LeO.ite ?_ ?_
      | refine LeO.bind ?_ (fun _ => ?_)

def spec_SameMove.e (k : Nat) : Refl.Ent G := ⟨43, [(.agg [.str, li]), (.agg [.str, li])], .tup [(.c .bool), (.c .bool)], fun x => spec_SameMove.f k x.1 x.2.1 x.2.2.1 x.2.2.2⟩
def spec_SameMove.pj0 : Refl.Pn G (Refl.PT G (spec_SameMove.e 0).ol) := ⟨false, 1000001, ⟨[(13, .v (.c .bool)), (2, .box 2 0), (3, .box 3 0), (4, .k (Value.bool false)), (5, .k (Value.bool false))], [(2, 51, gL2), (3, 51, gL2)]⟩, fun k x => spec_SameMove.j0 k x.1 x.2.1 x.2.2.1 x.2.2.2.1 x.2.2.2.2⟩
theorem spec_SameMove.ok (k : Nat) : Refl.EntOK Tryz.prog (spec_SameMove.e k) := Refl.ent_ok 1000000 k GC (fun k => [spec_mvGood.e k, spec_mvAll.e k]) (fun k => ⟨spec_mvGood.ok k, spec_mvAll.ok k, trivial⟩) Tryz.func43 (by kernel_rfl) [spec_SameMove.pj0] (ps := [spec_SameMove.pj0]) (by kernel_rfl) ⟨⟨fun x => by kernel_rfl, fun k x => by kernel_rfl⟩, trivial⟩ (fun x => by kernel_rfl)

/-! ### laws_FnMoves: function 4 -/

mutual
def laws_FnMoves.j0 : Nat → Bool → ByteArray → Bool → Bool → Bool → ByteArray → Int → ByteArray → Int → ByteArray → Int → ByteArray → Int → ByteArray → Int → Option (Bool)
  | 0, _, _, _, _, _, _, _, _, _, _, _, _, _, _, _ => none
  | k + 1, x7, x14, x26, x27, x169, x362000, x362001, x366000, x366001, x370000, x370001, x392000, x392001, x393000, x393001 => if x169 = true then (some false) else (if x7 = true then ((impl_SameMove.f k x362000 x362001 x366000 x366001).bind fun bt398 => ((impl_NormalMove.f k x366000 x366001).bind fun bt400 => ((impl_ParseMove.f k x14).bind fun bt404 => (if bt398.2 = true then (if bt398.1 = true then (if bt400.2.2 = true then (if ((bt400.1.toList == x370000.toList && (bt400.2.1 == x370001)) = true) then (if bt404.2.2 = true then (if ((bt404.1.toList == x362000.toList && (bt404.2.1 == x362001)) = true) then (if (x370000.size : Int) > (x362000.size : Int) then (some false) else (laws_FnMoves.j1 k x26 x27 x392000 x392001 x393000 x393001)) else (some false)) else (some false)) else (some false)) else (some false)) else (some false)) else (some false))))) else (laws_FnMoves.j1 k x26 x27 x392000 x392001 x393000 x393001))
def laws_FnMoves.j1 : Nat → Bool → Bool → ByteArray → Int → ByteArray → Int → Option (Bool)
  | 0, _, _, _, _, _, _ => none
  | k + 1, x26, x27, x392000, x392001, x393000, x393001 => if x26 = true then ((impl_NormalMove.f k x392000 x392001).bind fun bt408 => ((impl_NormalMove.f k x393000 x393001).bind fun bt412 => (if bt408.2.2 = true then (if bt412.2.2 = true then (some ((bt408.1.toList == bt412.1.toList && (bt408.2.1 == bt412.2.1)) == x27)) else (some false)) else (some false)))) else (some true)
end

def laws_FnMoves.f (k : Nat) (l0 : List Int) (l1 : List Int) : Option (Bool) := if (wrap64 ((l0.length : Int) + (l1.length : Int))) > 1048576 then (some true) else ((spec_DrawNormalMove.f k l0).bind fun bt359 => ((impl_NormalMove.f k bt359.1 bt359.2).bind fun bt362 => ((spec_NormalMove.f k bt359.1 bt359.2).bind fun bt366 => ((impl_AllSteps.f k bt359.1 bt359.2).bind fun bt370 => ((spec_AllSteps.f k bt359.1 bt359.2).bind fun bt372 => ((impl_MoveText.f k bt359.1 bt359.2).bind fun bt374 => ((spec_MoveText.f k bt359.1 bt359.2).bind fun bt376 => ((spec_DrawParseMove.f k l1).bind fun t378 => ((impl_ParseMove.f k t378).bind fun bt379 => ((spec_ParseMove.f k t378).bind fun bt383 => ((spec_DrawSameMove.f k l1).bind fun bt387 => ((impl_SameMove.f k bt387.1 bt387.2.1 bt387.2.2.1 bt387.2.2.2).bind fun bt393 => ((spec_SameMove.f k bt387.1 bt387.2.1 bt387.2.2.1 bt387.2.2.2).bind fun bt395 => (if ((bt362.2.2 == bt366.2.2) = true) then (if ((bt362.1.toList == bt366.1.toList && (bt362.2.1 == bt366.2.1)) = true) then (if ((bt370.2 == bt372.2) = true) then (if bt370.1.toList = bt372.1.toList then (if ((bt374.2 == bt376.2) = true) then (if bt374.1.toList = bt376.1.toList then (if ((bt379.2.2 == bt383.2.2) = true) then (if ((bt379.1.toList == bt383.1.toList && (bt379.2.1 == bt383.2.1)) = true) then (if ((bt393.2 == bt395.2) = true) then (if ((bt393.1 == bt395.1) = true) then ((impl_IsMove.f k bt359.1 bt359.2).bind fun t397 => (if ((bt362.2.2 == t397) = true) then (if ((bt370.2 == bt362.2.2) = true) then (laws_FnMoves.j0 k bt362.2.2 bt374.1 bt393.2 bt395.1 (!(bt374.2 == bt362.2.2)) bt359.1 bt359.2 bt362.1 bt362.2.1 bt366.1 bt366.2.1 bt387.1 bt387.2.1 bt387.2.2.1 bt387.2.2.2) else (laws_FnMoves.j0 k bt362.2.2 bt374.1 bt393.2 bt395.1 true bt359.1 bt359.2 bt362.1 bt362.2.1 bt366.1 bt366.2.1 bt387.1 bt387.2.1 bt387.2.2.1 bt387.2.2.2)) else (laws_FnMoves.j0 k bt362.2.2 bt374.1 bt393.2 bt395.1 true bt359.1 bt359.2 bt362.1 bt362.2.1 bt366.1 bt366.2.1 bt387.1 bt387.2.1 bt387.2.2.1 bt387.2.2.2))) else (laws_FnMoves.j0 k bt362.2.2 bt374.1 bt393.2 bt395.1 true bt359.1 bt359.2 bt362.1 bt362.2.1 bt366.1 bt366.2.1 bt387.1 bt387.2.1 bt387.2.2.1 bt387.2.2.2)) else (laws_FnMoves.j0 k bt362.2.2 bt374.1 bt393.2 bt395.1 true bt359.1 bt359.2 bt362.1 bt362.2.1 bt366.1 bt366.2.1 bt387.1 bt387.2.1 bt387.2.2.1 bt387.2.2.2)) else (laws_FnMoves.j0 k bt362.2.2 bt374.1 bt393.2 bt395.1 true bt359.1 bt359.2 bt362.1 bt362.2.1 bt366.1 bt366.2.1 bt387.1 bt387.2.1 bt387.2.2.1 bt387.2.2.2)) else (laws_FnMoves.j0 k bt362.2.2 bt374.1 bt393.2 bt395.1 true bt359.1 bt359.2 bt362.1 bt362.2.1 bt366.1 bt366.2.1 bt387.1 bt387.2.1 bt387.2.2.1 bt387.2.2.2)) else (laws_FnMoves.j0 k bt362.2.2 bt374.1 bt393.2 bt395.1 true bt359.1 bt359.2 bt362.1 bt362.2.1 bt366.1 bt366.2.1 bt387.1 bt387.2.1 bt387.2.2.1 bt387.2.2.2)) else (laws_FnMoves.j0 k bt362.2.2 bt374.1 bt393.2 bt395.1 true bt359.1 bt359.2 bt362.1 bt362.2.1 bt366.1 bt366.2.1 bt387.1 bt387.2.1 bt387.2.2.1 bt387.2.2.2)) else (laws_FnMoves.j0 k bt362.2.2 bt374.1 bt393.2 bt395.1 true bt359.1 bt359.2 bt362.1 bt362.2.1 bt366.1 bt366.2.1 bt387.1 bt387.2.1 bt387.2.2.1 bt387.2.2.2)) else (laws_FnMoves.j0 k bt362.2.2 bt374.1 bt393.2 bt395.1 true bt359.1 bt359.2 bt362.1 bt362.2.1 bt366.1 bt366.2.1 bt387.1 bt387.2.1 bt387.2.2.1 bt387.2.2.2)) else (laws_FnMoves.j0 k bt362.2.2 bt374.1 bt393.2 bt395.1 true bt359.1 bt359.2 bt362.1 bt362.2.1 bt366.1 bt366.2.1 bt387.1 bt387.2.1 bt387.2.2.1 bt387.2.2.2)) else (laws_FnMoves.j0 k bt362.2.2 bt374.1 bt393.2 bt395.1 true bt359.1 bt359.2 bt362.1 bt362.2.1 bt366.1 bt366.2.1 bt387.1 bt387.2.1 bt387.2.2.1 bt387.2.2.2)))))))))))))))

theorem laws_FnMoves.mono_l : ∀ k, (∀ y0 y1 y2 y3 y4 y5 y6 y7 y8 y9 y10 y11 y12 y13 y14, LeO (laws_FnMoves.j0 k y0 y1 y2 y3 y4 y5 y6 y7 y8 y9 y10 y11 y12 y13 y14) (laws_FnMoves.j0 (k + 1) y0 y1 y2 y3 y4 y5 y6 y7 y8 y9 y10 y11 y12 y13 y14)) ∧ (∀ y0 y1 y2 y3 y4 y5, LeO (laws_FnMoves.j1 k y0 y1 y2 y3 y4 y5) (laws_FnMoves.j1 (k + 1) y0 y1 y2 y3 y4 y5))
  | 0 => ⟨fun _ _ _ _ _ _ _ _ _ _ _ _ _ _ _ r h => by simp [laws_FnMoves.j0] at h, fun _ _ _ _ _ _ r h => by simp [laws_FnMoves.j1] at h⟩
  | k + 1 => by
    obtain ⟨ih0, ih1⟩ := laws_FnMoves.mono_l k
    refine ⟨?_, ?_⟩
    · intro y0 y1 y2 y3 y4 y5 y6 y7 y8 y9 y10 y11 y12 y13 y14
      unfold laws_FnMoves.j0
      repeat' first
      | (with_reducible exact ih0 _ _ _ _ _ _ _ _ _ _ _ _ _ _ _)
      | (with_reducible exact ih1 _ _ _ _ _ _)
      | (with_reducible exact impl_AllSteps.mono _ _ _)
      | (with_reducible exact impl_IsMove.mono _ _ _)
      | (with_reducible exact impl_MoveText.mono _ _ _)
      | (with_reducible exact impl_NormalMove.mono _ _ _)
      | (with_reducible exact impl_ParseMove.mono _ _)
      | (with_reducible exact impl_SameMove.mono _ _ _ _ _)
      | (with_reducible exact spec_AllSteps.mono _ _ _)
      | (with_reducible exact spec_DrawNormalMove.mono _ _)
      | (with_reducible exact spec_DrawParseMove.mono _ _)
      | (with_reducible exact spec_DrawSameMove.mono _ _)
      | (with_reducible exact spec_MoveText.mono _ _ _)
      | (with_reducible exact spec_NormalMove.mono _ _ _)
      | (with_reducible exact spec_ParseMove.mono _ _)
      | (with_reducible exact spec_SameMove.mono _ _ _ _ _)
      | (with_reducible exact LeO.refl _)
      | (with_reducible exact LeO.none _)
      | (with_reducible refine LeO.ite ?_ ?_)
      | (with_reducible refine LeO.bind ?_ (fun _ => ?_))
      | exact ih0 _ _ _ _ _ _ _ _ _ _ _ _ _ _ _
      | exact ih1 _ _ _ _ _ _
      | exact impl_AllSteps.mono _ _ _
      | exact impl_IsMove.mono _ _ _
      | exact impl_MoveText.mono _ _ _
      | exact impl_NormalMove.mono _ _ _
      | exact impl_ParseMove.mono _ _
      | exact impl_SameMove.mono _ _ _ _ _
      | exact spec_AllSteps.mono _ _ _
      | exact spec_DrawNormalMove.mono _ _
      | exact spec_DrawParseMove.mono _ _
      | exact spec_DrawSameMove.mono _ _
      | exact spec_MoveText.mono _ _ _
      | exact spec_NormalMove.mono _ _ _
      | exact spec_ParseMove.mono _ _
      | exact spec_SameMove.mono _ _ _ _ _
      | exact LeO.none _
      | refine LeO.ite ?_ ?_
      | refine LeO.bind ?_ (fun _ => ?_)
    · intro y0 y1 y2 y3 y4 y5
      unfold laws_FnMoves.j1
      repeat' first
      | (with_reducible exact ih0 _ _ _ _ _ _ _ _ _ _ _ _ _ _ _)
      | (with_reducible exact ih1 _ _ _ _ _ _)
      | (with_reducible exact impl_AllSteps.mono _ _ _)
      | (with_reducible exact impl_IsMove.mono _ _ _)
      | (with_reducible exact impl_MoveText.mono _ _ _)
      | (with_reducible exact impl_NormalMove.mono _ _ _)
      | (with_reducible exact impl_ParseMove.mono _ _)
      | (with_reducible exact impl_SameMove.mono _ _ _ _ _)
      | (with_reducible exact spec_AllSteps.mono _ _ _)
      | (with_reducible exact spec_DrawNormalMove.mono _ _)
      | (with_reducible exact spec_DrawParseMove.mono _ _)
      | (with_reducible exact spec_DrawSameMove.mono _ _)
      | (with_reducible exact spec_MoveText.mono _ _ _)
      | (with_reducible exact spec_NormalMove.mono _ _ _)
      | (with_reducible exact spec_ParseMove.mono _ _)
      | (with_reducible exact spec_SameMove.mono _ _ _ _ _)
      | (with_reducible exact LeO.refl _)
      | (with_reducible exact LeO.none _)
      | (with_reducible refine LeO.ite ?_ ?_)
      | (with_reducible refine LeO.bind ?_ (fun _ => ?_))
      | exact ih0 _ _ _ _ _ _ _ _ _ _ _ _ _ _ _
      | exact ih1 _ _ _ _ _ _
      | exact impl_AllSteps.mono _ _ _
      | exact impl_IsMove.mono _ _ _
      | exact impl_MoveText.mono _ _ _
      | exact impl_NormalMove.mono _ _ _
      | exact impl_ParseMove.mono _ _
      | exact impl_SameMove.mono _ _ _ _ _
      | exact spec_AllSteps.mono _ _ _
      | exact spec_DrawNormalMove.mono _ _
      | exact spec_DrawParseMove.mono _ _
      | exact spec_DrawSameMove.mono _ _
      | exact spec_MoveText.mono _ _ _
      | exact spec_NormalMove.mono _ _ _
      | exact spec_ParseMove.mono _ _
      | exact spec_SameMove.mono _ _ _ _ _
      | exact LeO.none _
      | refine LeO.ite ?_ ?_
      | refine LeO.bind ?_ (fun _ => ?_)

theorem laws_FnMoves.mono : ∀ a0 a1 k, LeO (laws_FnMoves.f k a0 a1) (laws_FnMoves.f (k + 1) a0 a1) := by
  intro a0 a1 k
  obtain ⟨ih0, ih1⟩ := laws_FnMoves.mono_l k
  unfold laws_FnMoves.f
  repeat' first
      | (with_reducible exact ih0 _ _ _ _ _ _ _ _ _ _ _ _ _ _ _)
      | (with_reducible exact ih1 _ _ _ _ _ _)
      | (with_reducible exact impl_AllSteps.mono _ _ _)
      | (with_reducible exact impl_IsMove.mono _ _ _)
      | (with_reducible exact impl_MoveText.mono _ _ _)
      | (with_reducible exact impl_NormalMove.mono _ _ _)
      | (with_reducible exact impl_ParseMove.mono _ _)
      | (with_reducible exact impl_SameMove.mono _ _ _ _ _)
      | (with_reducible exact spec_AllSteps.mono _ _ _)
      | (with_reducible exact spec_DrawNormalMove.mono _ _)
      | (with_reducible exact spec_DrawParseMove.mono _ _)
      | (with_reducible exact spec_DrawSameMove.mono _ _)
      | (with_reducible exact spec_MoveText.mono _ _ _)
      | (with_reducible exact spec_NormalMove.mono _ _ _)
      | (with_reducible exact spec_ParseMove.mono _ _)
      | (with_reducible exact spec_SameMove.mono _ _ _ _ _)
      | (with_reducible exact LeO.refl _)
      | (with_reducible exact LeO.none _)
      | (with_reducible refine LeO.ite ?_ ?_)
      | (with_reducible refine LeO.bind ?_ (fun _ => ?_))
      | exact ih0 _ _ _ _ _ _ _ _ _ _ _ _ _ _ _
      | exact ih1 _ _ _ _ _ _
      | exact impl_AllSteps.mono _ _ _
      | exact impl_IsMove.mono _ _ _
      | exact impl_MoveText.mono _ _ _
      | exact impl_NormalMove.mono _ _ _
      | exact impl_ParseMove.mono _ _
      | exact impl_SameMove.mono _ _ _ _ _
      | exact spec_AllSteps.mono _ _ _
      | exact spec_DrawNormalMove.mono _ _
      | exact spec_DrawParseMove.mono _ _
      | exact spec_DrawSameMove.mono _ _
      | exact spec_MoveText.mono _ _ _
      | exact spec_NormalMove.mono _ _ _
      | exact spec_ParseMove.mono _ _
      | exact spec_SameMove.mono _ _ _ _ _
      | exact LeO.none _
      | refine LeO.ite ?_ ?_
      | refine LeO.bind ?_ (fun _ => ?_)

def laws_FnMoves.e (k : Nat) : Refl.Ent G := ⟨4, [(.c (.row 5 false)), (.c (.row 5 false))], .one (.c .bool), fun x => laws_FnMoves.f k x.1 x.2⟩
def laws_FnMoves.pj0 : Refl.Pn G (Refl.PT G (laws_FnMoves.e 0).ol) := ⟨false, 1000016, ⟨[(7, .v (.c .bool)), (14, .v (.c .str)), (26, .v (.c .bool)), (27, .v (.c .bool)), (169, .v (.c .bool)), (5, .box 5 0), (6, .box 6 0), (8, .box 8 0), (23, .box 23 0), (24, .box 24 0), (4, .k (Value.bool false))], [(5, 51, gL2), (6, 51, gL2), (8, 51, gL2), (23, 51, gL2), (24, 51, gL2)]⟩, fun k x => laws_FnMoves.j0 k x.1 x.2.1 x.2.2.1 x.2.2.2.1 x.2.2.2.2.1 x.2.2.2.2.2.1 x.2.2.2.2.2.2.1 x.2.2.2.2.2.2.2.1 x.2.2.2.2.2.2.2.2.1 x.2.2.2.2.2.2.2.2.2.1 x.2.2.2.2.2.2.2.2.2.2.1 x.2.2.2.2.2.2.2.2.2.2.2.1 x.2.2.2.2.2.2.2.2.2.2.2.2.1 x.2.2.2.2.2.2.2.2.2.2.2.2.2.1 x.2.2.2.2.2.2.2.2.2.2.2.2.2.2⟩
def laws_FnMoves.pj1 : Refl.Pn G (Refl.PT G (laws_FnMoves.e 0).ol) := ⟨false, 24, ⟨[(26, .v (.c .bool)), (27, .v (.c .bool)), (23, .box 23 0), (24, .box 24 0), (4, .k (Value.bool false))], [(23, 51, gL2), (24, 51, gL2)]⟩, fun k x => laws_FnMoves.j1 k x.1 x.2.1 x.2.2.1 x.2.2.2.1 x.2.2.2.2.1 x.2.2.2.2.2⟩
def laws_FnMoves.E_ (X_spec_DrawNormalMove : type_of% @spec_DrawNormalMove.f) (X_impl_NormalMove : type_of% @impl_NormalMove.f) (X_spec_NormalMove : type_of% @spec_NormalMove.f) (X_impl_AllSteps : type_of% @impl_AllSteps.f) (X_spec_AllSteps : type_of% @spec_AllSteps.f) (X_impl_MoveText : type_of% @impl_MoveText.f) (X_spec_MoveText : type_of% @spec_MoveText.f) (X_spec_DrawParseMove : type_of% @spec_DrawParseMove.f) (X_impl_ParseMove : type_of% @impl_ParseMove.f) (X_spec_ParseMove : type_of% @spec_ParseMove.f) (X_spec_DrawSameMove : type_of% @spec_DrawSameMove.f) (X_impl_SameMove : type_of% @impl_SameMove.f) (X_spec_SameMove : type_of% @spec_SameMove.f) (X_impl_IsMove : type_of% @impl_IsMove.f) (X_j0 : type_of% @laws_FnMoves.j0) (X_j1 : type_of% @laws_FnMoves.j1) (k : Nat) : List (Refl.Ent G) := [⟨31, [(.c (.row 5 false))], .one (.agg [.str, li]), fun x => X_spec_DrawNormalMove k x⟩, ⟨32, [(.agg [.str, li])], .tup [(.agg [.str, li]), (.c .bool)], fun x => X_impl_NormalMove k x.1 x.2⟩, ⟨33, [(.agg [.str, li])], .tup [(.agg [.str, li]), (.c .bool)], fun x => X_spec_NormalMove k x.1 x.2⟩, ⟨34, [(.agg [.str, li])], .tup [(.c .str), (.c .bool)], fun x => X_impl_AllSteps k x.1 x.2⟩, ⟨35, [(.agg [.str, li])], .tup [(.c .str), (.c .bool)], fun x => X_spec_AllSteps k x.1 x.2⟩, ⟨36, [(.agg [.str, li])], .tup [(.c .str), (.c .bool)], fun x => X_impl_MoveText k x.1 x.2⟩, ⟨37, [(.agg [.str, li])], .tup [(.c .str), (.c .bool)], fun x => X_spec_MoveText k x.1 x.2⟩, ⟨38, [(.c (.row 5 false))], .one (.c .str), fun x => X_spec_DrawParseMove k x⟩, ⟨39, [(.c .str)], .tup [(.agg [.str, li]), (.c .bool)], fun x => X_impl_ParseMove k x⟩, ⟨40, [(.c .str)], .tup [(.agg [.str, li]), (.c .bool)], fun x => X_spec_ParseMove k x⟩, ⟨41, [(.c (.row 5 false))], .tup [(.agg [.str, li]), (.agg [.str, li])], fun x => X_spec_DrawSameMove k x⟩, ⟨42, [(.agg [.str, li]), (.agg [.str, li])], .tup [(.c .bool), (.c .bool)], fun x => X_impl_SameMove k x.1 x.2.1 x.2.2.1 x.2.2.2⟩, ⟨43, [(.agg [.str, li]), (.agg [.str, li])], .tup [(.c .bool), (.c .bool)], fun x => X_spec_SameMove k x.1 x.2.1 x.2.2.1 x.2.2.2⟩, ⟨44, [(.agg [.str, li])], .one (.c .bool), fun x => X_impl_IsMove k x.1 x.2⟩]
def laws_FnMoves.P_j0 (X_spec_DrawNormalMove : type_of% @spec_DrawNormalMove.f) (X_impl_NormalMove : type_of% @impl_NormalMove.f) (X_spec_NormalMove : type_of% @spec_NormalMove.f) (X_impl_AllSteps : type_of% @impl_AllSteps.f) (X_spec_AllSteps : type_of% @spec_AllSteps.f) (X_impl_MoveText : type_of% @impl_MoveText.f) (X_spec_MoveText : type_of% @spec_MoveText.f) (X_spec_DrawParseMove : type_of% @spec_DrawParseMove.f) (X_impl_ParseMove : type_of% @impl_ParseMove.f) (X_spec_ParseMove : type_of% @spec_ParseMove.f) (X_spec_DrawSameMove : type_of% @spec_DrawSameMove.f) (X_impl_SameMove : type_of% @impl_SameMove.f) (X_spec_SameMove : type_of% @spec_SameMove.f) (X_impl_IsMove : type_of% @impl_IsMove.f) (X_j0 : type_of% @laws_FnMoves.j0) (X_j1 : type_of% @laws_FnMoves.j1) : Refl.Pn G (Refl.PT G (laws_FnMoves.e 0).ol) := ⟨false, 1000016, ⟨[(7, .v (.c .bool)), (14, .v (.c .str)), (26, .v (.c .bool)), (27, .v (.c .bool)), (169, .v (.c .bool)), (5, .box 5 0), (6, .box 6 0), (8, .box 8 0), (23, .box 23 0), (24, .box 24 0), (4, .k (Value.bool false))], [(5, 51, gL2), (6, 51, gL2), (8, 51, gL2), (23, 51, gL2), (24, 51, gL2)]⟩, fun k x => X_j0 k x.1 x.2.1 x.2.2.1 x.2.2.2.1 x.2.2.2.2.1 x.2.2.2.2.2.1 x.2.2.2.2.2.2.1 x.2.2.2.2.2.2.2.1 x.2.2.2.2.2.2.2.2.1 x.2.2.2.2.2.2.2.2.2.1 x.2.2.2.2.2.2.2.2.2.2.1 x.2.2.2.2.2.2.2.2.2.2.2.1 x.2.2.2.2.2.2.2.2.2.2.2.2.1 x.2.2.2.2.2.2.2.2.2.2.2.2.2.1 x.2.2.2.2.2.2.2.2.2.2.2.2.2.2⟩
def laws_FnMoves.P_j1 (X_spec_DrawNormalMove : type_of% @spec_DrawNormalMove.f) (X_impl_NormalMove : type_of% @impl_NormalMove.f) (X_spec_NormalMove : type_of% @spec_NormalMove.f) (X_impl_AllSteps : type_of% @impl_AllSteps.f) (X_spec_AllSteps : type_of% @spec_AllSteps.f) (X_impl_MoveText : type_of% @impl_MoveText.f) (X_spec_MoveText : type_of% @spec_MoveText.f) (X_spec_DrawParseMove : type_of% @spec_DrawParseMove.f) (X_impl_ParseMove : type_of% @impl_ParseMove.f) (X_spec_ParseMove : type_of% @spec_ParseMove.f) (X_spec_DrawSameMove : type_of% @spec_DrawSameMove.f) (X_impl_SameMove : type_of% @impl_SameMove.f) (X_spec_SameMove : type_of% @spec_SameMove.f) (X_impl_IsMove : type_of% @impl_IsMove.f) (X_j0 : type_of% @laws_FnMoves.j0) (X_j1 : type_of% @laws_FnMoves.j1) : Refl.Pn G (Refl.PT G (laws_FnMoves.e 0).ol) := ⟨false, 24, ⟨[(26, .v (.c .bool)), (27, .v (.c .bool)), (23, .box 23 0), (24, .box 24 0), (4, .k (Value.bool false))], [(23, 51, gL2), (24, 51, gL2)]⟩, fun k x => X_j1 k x.1 x.2.1 x.2.2.1 x.2.2.2.1 x.2.2.2.2.1 x.2.2.2.2.2⟩
def laws_FnMoves.Ed_ [DLT : DecidableLT Int] [DLE : DecidableLE Int] (X_spec_DrawNormalMove : type_of% @spec_DrawNormalMove.f) (X_impl_NormalMove : type_of% @impl_NormalMove.f) (X_spec_NormalMove : type_of% @spec_NormalMove.f) (X_impl_AllSteps : type_of% @impl_AllSteps.f) (X_spec_AllSteps : type_of% @spec_AllSteps.f) (X_impl_MoveText : type_of% @impl_MoveText.f) (X_spec_MoveText : type_of% @spec_MoveText.f) (X_spec_DrawParseMove : type_of% @spec_DrawParseMove.f) (X_impl_ParseMove : type_of% @impl_ParseMove.f) (X_spec_ParseMove : type_of% @spec_ParseMove.f) (X_spec_DrawSameMove : type_of% @spec_DrawSameMove.f) (X_impl_SameMove : type_of% @impl_SameMove.f) (X_spec_SameMove : type_of% @spec_SameMove.f) (X_impl_IsMove : type_of% @impl_IsMove.f) (X_j0 : type_of% @laws_FnMoves.j0) (X_j1 : type_of% @laws_FnMoves.j1) (k : Nat) : List (Refl.Ent (Gd Int.instDecidableEq DLT DLE)) := [⟨31, [(.c (.row 5 false))], .one (.agg [.str, li]), fun x => X_spec_DrawNormalMove k x⟩, ⟨32, [(.agg [.str, li])], .tup [(.agg [.str, li]), (.c .bool)], fun x => X_impl_NormalMove k x.1 x.2⟩, ⟨33, [(.agg [.str, li])], .tup [(.agg [.str, li]), (.c .bool)], fun x => X_spec_NormalMove k x.1 x.2⟩, ⟨34, [(.agg [.str, li])], .tup [(.c .str), (.c .bool)], fun x => X_impl_AllSteps k x.1 x.2⟩, ⟨35, [(.agg [.str, li])], .tup [(.c .str), (.c .bool)], fun x => X_spec_AllSteps k x.1 x.2⟩, ⟨36, [(.agg [.str, li])], .tup [(.c .str), (.c .bool)], fun x => X_impl_MoveText k x.1 x.2⟩, ⟨37, [(.agg [.str, li])], .tup [(.c .str), (.c .bool)], fun x => X_spec_MoveText k x.1 x.2⟩, ⟨38, [(.c (.row 5 false))], .one (.c .str), fun x => X_spec_DrawParseMove k x⟩, ⟨39, [(.c .str)], .tup [(.agg [.str, li]), (.c .bool)], fun x => X_impl_ParseMove k x⟩, ⟨40, [(.c .str)], .tup [(.agg [.str, li]), (.c .bool)], fun x => X_spec_ParseMove k x⟩, ⟨41, [(.c (.row 5 false))], .tup [(.agg [.str, li]), (.agg [.str, li])], fun x => X_spec_DrawSameMove k x⟩, ⟨42, [(.agg [.str, li]), (.agg [.str, li])], .tup [(.c .bool), (.c .bool)], fun x => X_impl_SameMove k x.1 x.2.1 x.2.2.1 x.2.2.2⟩, ⟨43, [(.agg [.str, li]), (.agg [.str, li])], .tup [(.c .bool), (.c .bool)], fun x => X_spec_SameMove k x.1 x.2.1 x.2.2.1 x.2.2.2⟩, ⟨44, [(.agg [.str, li])], .one (.c .bool), fun x => X_impl_IsMove k x.1 x.2⟩]
def laws_FnMoves.Pd_j0 [DLT : DecidableLT Int] [DLE : DecidableLE Int] (X_spec_DrawNormalMove : type_of% @spec_DrawNormalMove.f) (X_impl_NormalMove : type_of% @impl_NormalMove.f) (X_spec_NormalMove : type_of% @spec_NormalMove.f) (X_impl_AllSteps : type_of% @impl_AllSteps.f) (X_spec_AllSteps : type_of% @spec_AllSteps.f) (X_impl_MoveText : type_of% @impl_MoveText.f) (X_spec_MoveText : type_of% @spec_MoveText.f) (X_spec_DrawParseMove : type_of% @spec_DrawParseMove.f) (X_impl_ParseMove : type_of% @impl_ParseMove.f) (X_spec_ParseMove : type_of% @spec_ParseMove.f) (X_spec_DrawSameMove : type_of% @spec_DrawSameMove.f) (X_impl_SameMove : type_of% @impl_SameMove.f) (X_spec_SameMove : type_of% @spec_SameMove.f) (X_impl_IsMove : type_of% @impl_IsMove.f) (X_j0 : type_of% @laws_FnMoves.j0) (X_j1 : type_of% @laws_FnMoves.j1) : Refl.Pn (Gd Int.instDecidableEq DLT DLE) (Refl.PT (Gd Int.instDecidableEq DLT DLE) (laws_FnMoves.e 0).ol) := ⟨false, 1000016, ⟨[(7, .v (.c .bool)), (14, .v (.c .str)), (26, .v (.c .bool)), (27, .v (.c .bool)), (169, .v (.c .bool)), (5, .box 5 0), (6, .box 6 0), (8, .box 8 0), (23, .box 23 0), (24, .box 24 0), (4, .k (Value.bool false))], [(5, 51, gL2), (6, 51, gL2), (8, 51, gL2), (23, 51, gL2), (24, 51, gL2)]⟩, fun k x => X_j0 k x.1 x.2.1 x.2.2.1 x.2.2.2.1 x.2.2.2.2.1 x.2.2.2.2.2.1 x.2.2.2.2.2.2.1 x.2.2.2.2.2.2.2.1 x.2.2.2.2.2.2.2.2.1 x.2.2.2.2.2.2.2.2.2.1 x.2.2.2.2.2.2.2.2.2.2.1 x.2.2.2.2.2.2.2.2.2.2.2.1 x.2.2.2.2.2.2.2.2.2.2.2.2.1 x.2.2.2.2.2.2.2.2.2.2.2.2.2.1 x.2.2.2.2.2.2.2.2.2.2.2.2.2.2⟩
def laws_FnMoves.Pd_j1 [DLT : DecidableLT Int] [DLE : DecidableLE Int] (X_spec_DrawNormalMove : type_of% @spec_DrawNormalMove.f) (X_impl_NormalMove : type_of% @impl_NormalMove.f) (X_spec_NormalMove : type_of% @spec_NormalMove.f) (X_impl_AllSteps : type_of% @impl_AllSteps.f) (X_spec_AllSteps : type_of% @spec_AllSteps.f) (X_impl_MoveText : type_of% @impl_MoveText.f) (X_spec_MoveText : type_of% @spec_MoveText.f) (X_spec_DrawParseMove : type_of% @spec_DrawParseMove.f) (X_impl_ParseMove : type_of% @impl_ParseMove.f) (X_spec_ParseMove : type_of% @spec_ParseMove.f) (X_spec_DrawSameMove : type_of% @spec_DrawSameMove.f) (X_impl_SameMove : type_of% @impl_SameMove.f) (X_spec_SameMove : type_of% @spec_SameMove.f) (X_impl_IsMove : type_of% @impl_IsMove.f) (X_j0 : type_of% @laws_FnMoves.j0) (X_j1 : type_of% @laws_FnMoves.j1) : Refl.Pn (Gd Int.instDecidableEq DLT DLE) (Refl.PT (Gd Int.instDecidableEq DLT DLE) (laws_FnMoves.e 0).ol) := ⟨false, 24, ⟨[(26, .v (.c .bool)), (27, .v (.c .bool)), (23, .box 23 0), (24, .box 24 0), (4, .k (Value.bool false))], [(23, 51, gL2), (24, 51, gL2)]⟩, fun k x => X_j1 k x.1 x.2.1 x.2.2.1 x.2.2.2.1 x.2.2.2.2.1 x.2.2.2.2.2⟩
def laws_FnMoves.B_j0 (X_spec_DrawNormalMove : type_of% @spec_DrawNormalMove.f) (X_impl_NormalMove : type_of% @impl_NormalMove.f) (X_spec_NormalMove : type_of% @spec_NormalMove.f) (X_impl_AllSteps : type_of% @impl_AllSteps.f) (X_spec_AllSteps : type_of% @spec_AllSteps.f) (X_impl_MoveText : type_of% @impl_MoveText.f) (X_spec_MoveText : type_of% @spec_MoveText.f) (X_spec_DrawParseMove : type_of% @spec_DrawParseMove.f) (X_impl_ParseMove : type_of% @impl_ParseMove.f) (X_spec_ParseMove : type_of% @spec_ParseMove.f) (X_spec_DrawSameMove : type_of% @spec_DrawSameMove.f) (X_impl_SameMove : type_of% @impl_SameMove.f) (X_spec_SameMove : type_of% @spec_SameMove.f) (X_impl_IsMove : type_of% @impl_IsMove.f) (X_j0 : type_of% @laws_FnMoves.j0) (X_j1 : type_of% @laws_FnMoves.j1) (k : Nat) (x7 : Bool) (x14 : ByteArray) (x26 : Bool) (x27 : Bool) (x169 : Bool) (x362000 : ByteArray) (x362001 : Int) (x366000 : ByteArray) (x366001 : Int) (x370000 : ByteArray) (x370001 : Int) (x392000 : ByteArray) (x392001 : Int) (x393000 : ByteArray) (x393001 : Int) : Option (Bool) := if x169 = true then (some false) else (if x7 = true then ((X_impl_SameMove k x362000 x362001 x366000 x366001).bind fun bt398 => ((X_impl_NormalMove k x366000 x366001).bind fun bt400 => ((X_impl_ParseMove k x14).bind fun bt404 => (if bt398.2 = true then (if bt398.1 = true then (if bt400.2.2 = true then (if ((bt400.1.toList == x370000.toList && (bt400.2.1 == x370001)) = true) then (if bt404.2.2 = true then (if ((bt404.1.toList == x362000.toList && (bt404.2.1 == x362001)) = true) then (if (x370000.size : Int) > (x362000.size : Int) then (some false) else (X_j1 k x26 x27 x392000 x392001 x393000 x393001)) else (some false)) else (some false)) else (some false)) else (some false)) else (some false)) else (some false))))) else (X_j1 k x26 x27 x392000 x392001 x393000 x393001))
theorem laws_FnMoves.T_j0 (X_spec_DrawNormalMove : type_of% @spec_DrawNormalMove.f) (X_impl_NormalMove : type_of% @impl_NormalMove.f) (X_spec_NormalMove : type_of% @spec_NormalMove.f) (X_impl_AllSteps : type_of% @impl_AllSteps.f) (X_spec_AllSteps : type_of% @spec_AllSteps.f) (X_impl_MoveText : type_of% @impl_MoveText.f) (X_spec_MoveText : type_of% @spec_MoveText.f) (X_spec_DrawParseMove : type_of% @spec_DrawParseMove.f) (X_impl_ParseMove : type_of% @impl_ParseMove.f) (X_spec_ParseMove : type_of% @spec_ParseMove.f) (X_spec_DrawSameMove : type_of% @spec_DrawSameMove.f) (X_impl_SameMove : type_of% @impl_SameMove.f) (X_spec_SameMove : type_of% @spec_SameMove.f) (X_impl_IsMove : type_of% @impl_IsMove.f) (X_j0 : type_of% @laws_FnMoves.j0) (X_j1 : type_of% @laws_FnMoves.j1) (k : Nat) (x) : laws_FnMoves.B_j0 X_spec_DrawNormalMove X_impl_NormalMove X_spec_NormalMove X_impl_AllSteps X_spec_AllSteps X_impl_MoveText X_spec_MoveText X_spec_DrawParseMove X_impl_ParseMove X_spec_ParseMove X_spec_DrawSameMove X_impl_SameMove X_spec_SameMove X_impl_IsMove X_j0 X_j1 k x.1 x.2.1 x.2.2.1 x.2.2.2.1 x.2.2.2.2.1 x.2.2.2.2.2.1 x.2.2.2.2.2.2.1 x.2.2.2.2.2.2.2.1 x.2.2.2.2.2.2.2.2.1 x.2.2.2.2.2.2.2.2.2.1 x.2.2.2.2.2.2.2.2.2.2.1 x.2.2.2.2.2.2.2.2.2.2.2.1 x.2.2.2.2.2.2.2.2.2.2.2.2.1 x.2.2.2.2.2.2.2.2.2.2.2.2.2.1 x.2.2.2.2.2.2.2.2.2.2.2.2.2.2 = Refl.goAt (Refl.stepsOf Tryz.f4 (laws_FnMoves.E_ X_spec_DrawNormalMove X_impl_NormalMove X_spec_NormalMove X_impl_AllSteps X_spec_AllSteps X_impl_MoveText X_spec_MoveText X_spec_DrawParseMove X_impl_ParseMove X_spec_ParseMove X_spec_DrawSameMove X_impl_SameMove X_spec_SameMove X_impl_IsMove X_j0 X_j1) (laws_FnMoves.e 0).args (laws_FnMoves.e 0).res [laws_FnMoves.P_j0 X_spec_DrawNormalMove X_impl_NormalMove X_spec_NormalMove X_impl_AllSteps X_spec_AllSteps X_impl_MoveText X_spec_MoveText X_spec_DrawParseMove X_impl_ParseMove X_spec_ParseMove X_spec_DrawSameMove X_impl_SameMove X_spec_SameMove X_impl_IsMove X_j0 X_j1, laws_FnMoves.P_j1 X_spec_DrawNormalMove X_impl_NormalMove X_spec_NormalMove X_impl_AllSteps X_spec_AllSteps X_impl_MoveText X_spec_MoveText X_spec_DrawParseMove X_impl_ParseMove X_spec_ParseMove X_spec_DrawSameMove X_impl_SameMove X_spec_SameMove X_impl_IsMove X_j0 X_j1]) 0 k (Refl.encSt 1000000 (laws_FnMoves.P_j0 X_spec_DrawNormalMove X_impl_NormalMove X_spec_NormalMove X_impl_AllSteps X_spec_AllSteps X_impl_MoveText X_spec_MoveText X_spec_DrawParseMove X_impl_ParseMove X_spec_ParseMove X_spec_DrawSameMove X_impl_SameMove X_spec_SameMove X_impl_IsMove X_j0 X_j1).sh x) := by kernel_rfl
def laws_FnMoves.B_j1 (X_spec_DrawNormalMove : type_of% @spec_DrawNormalMove.f) (X_impl_NormalMove : type_of% @impl_NormalMove.f) (X_spec_NormalMove : type_of% @spec_NormalMove.f) (X_impl_AllSteps : type_of% @impl_AllSteps.f) (X_spec_AllSteps : type_of% @spec_AllSteps.f) (X_impl_MoveText : type_of% @impl_MoveText.f) (X_spec_MoveText : type_of% @spec_MoveText.f) (X_spec_DrawParseMove : type_of% @spec_DrawParseMove.f) (X_impl_ParseMove : type_of% @impl_ParseMove.f) (X_spec_ParseMove : type_of% @spec_ParseMove.f) (X_spec_DrawSameMove : type_of% @spec_DrawSameMove.f) (X_impl_SameMove : type_of% @impl_SameMove.f) (X_spec_SameMove : type_of% @spec_SameMove.f) (X_impl_IsMove : type_of% @impl_IsMove.f) (X_j0 : type_of% @laws_FnMoves.j0) (X_j1 : type_of% @laws_FnMoves.j1) (k : Nat) (x26 : Bool) (x27 : Bool) (x392000 : ByteArray) (x392001 : Int) (x393000 : ByteArray) (x393001 : Int) : Option (Bool) := if x26 = true then ((X_impl_NormalMove k x392000 x392001).bind fun bt408 => ((X_impl_NormalMove k x393000 x393001).bind fun bt412 => (if bt408.2.2 = true then (if bt412.2.2 = true then (some ((bt408.1.toList == bt412.1.toList && (bt408.2.1 == bt412.2.1)) == x27)) else (some false)) else (some false)))) else (some true)
theorem laws_FnMoves.T_j1 (X_spec_DrawNormalMove : type_of% @spec_DrawNormalMove.f) (X_impl_NormalMove : type_of% @impl_NormalMove.f) (X_spec_NormalMove : type_of% @spec_NormalMove.f) (X_impl_AllSteps : type_of% @impl_AllSteps.f) (X_spec_AllSteps : type_of% @spec_AllSteps.f) (X_impl_MoveText : type_of% @impl_MoveText.f) (X_spec_MoveText : type_of% @spec_MoveText.f) (X_spec_DrawParseMove : type_of% @spec_DrawParseMove.f) (X_impl_ParseMove : type_of% @impl_ParseMove.f) (X_spec_ParseMove : type_of% @spec_ParseMove.f) (X_spec_DrawSameMove : type_of% @spec_DrawSameMove.f) (X_impl_SameMove : type_of% @impl_SameMove.f) (X_spec_SameMove : type_of% @spec_SameMove.f) (X_impl_IsMove : type_of% @impl_IsMove.f) (X_j0 : type_of% @laws_FnMoves.j0) (X_j1 : type_of% @laws_FnMoves.j1) (k : Nat) (x) : laws_FnMoves.B_j1 X_spec_DrawNormalMove X_impl_NormalMove X_spec_NormalMove X_impl_AllSteps X_spec_AllSteps X_impl_MoveText X_spec_MoveText X_spec_DrawParseMove X_impl_ParseMove X_spec_ParseMove X_spec_DrawSameMove X_impl_SameMove X_spec_SameMove X_impl_IsMove X_j0 X_j1 k x.1 x.2.1 x.2.2.1 x.2.2.2.1 x.2.2.2.2.1 x.2.2.2.2.2 = Refl.goAt (Refl.stepsOf Tryz.f4 (laws_FnMoves.E_ X_spec_DrawNormalMove X_impl_NormalMove X_spec_NormalMove X_impl_AllSteps X_spec_AllSteps X_impl_MoveText X_spec_MoveText X_spec_DrawParseMove X_impl_ParseMove X_spec_ParseMove X_spec_DrawSameMove X_impl_SameMove X_spec_SameMove X_impl_IsMove X_j0 X_j1) (laws_FnMoves.e 0).args (laws_FnMoves.e 0).res [laws_FnMoves.P_j0 X_spec_DrawNormalMove X_impl_NormalMove X_spec_NormalMove X_impl_AllSteps X_spec_AllSteps X_impl_MoveText X_spec_MoveText X_spec_DrawParseMove X_impl_ParseMove X_spec_ParseMove X_spec_DrawSameMove X_impl_SameMove X_spec_SameMove X_impl_IsMove X_j0 X_j1, laws_FnMoves.P_j1 X_spec_DrawNormalMove X_impl_NormalMove X_spec_NormalMove X_impl_AllSteps X_spec_AllSteps X_impl_MoveText X_spec_MoveText X_spec_DrawParseMove X_impl_ParseMove X_spec_ParseMove X_spec_DrawSameMove X_impl_SameMove X_spec_SameMove X_impl_IsMove X_j0 X_j1]) 1 k (Refl.encSt 1000000 (laws_FnMoves.P_j1 X_spec_DrawNormalMove X_impl_NormalMove X_spec_NormalMove X_impl_AllSteps X_spec_AllSteps X_impl_MoveText X_spec_MoveText X_spec_DrawParseMove X_impl_ParseMove X_spec_ParseMove X_spec_DrawSameMove X_impl_SameMove X_spec_SameMove X_impl_IsMove X_j0 X_j1).sh x) := by kernel_rfl
def laws_FnMoves.B_f [DLT : DecidableLT Int] [DLE : DecidableLE Int] (X_spec_DrawNormalMove : type_of% @spec_DrawNormalMove.f) (X_impl_NormalMove : type_of% @impl_NormalMove.f) (X_spec_NormalMove : type_of% @spec_NormalMove.f) (X_impl_AllSteps : type_of% @impl_AllSteps.f) (X_spec_AllSteps : type_of% @spec_AllSteps.f) (X_impl_MoveText : type_of% @impl_MoveText.f) (X_spec_MoveText : type_of% @spec_MoveText.f) (X_spec_DrawParseMove : type_of% @spec_DrawParseMove.f) (X_impl_ParseMove : type_of% @impl_ParseMove.f) (X_spec_ParseMove : type_of% @spec_ParseMove.f) (X_spec_DrawSameMove : type_of% @spec_DrawSameMove.f) (X_impl_SameMove : type_of% @impl_SameMove.f) (X_spec_SameMove : type_of% @spec_SameMove.f) (X_impl_IsMove : type_of% @impl_IsMove.f) (X_j0 : type_of% @laws_FnMoves.j0) (X_j1 : type_of% @laws_FnMoves.j1) (k : Nat) (l0 : List Int) (l1 : List Int) : Option (Bool) := if (wrap64 ((l0.length : Int) + (l1.length : Int))) > 1048576 then (some true) else ((X_spec_DrawNormalMove k l0).bind fun bt359 => ((X_impl_NormalMove k bt359.1 bt359.2).bind fun bt362 => ((X_spec_NormalMove k bt359.1 bt359.2).bind fun bt366 => ((X_impl_AllSteps k bt359.1 bt359.2).bind fun bt370 => ((X_spec_AllSteps k bt359.1 bt359.2).bind fun bt372 => ((X_impl_MoveText k bt359.1 bt359.2).bind fun bt374 => ((X_spec_MoveText k bt359.1 bt359.2).bind fun bt376 => ((X_spec_DrawParseMove k l1).bind fun t378 => ((X_impl_ParseMove k t378).bind fun bt379 => ((X_spec_ParseMove k t378).bind fun bt383 => ((X_spec_DrawSameMove k l1).bind fun bt387 => ((X_impl_SameMove k bt387.1 bt387.2.1 bt387.2.2.1 bt387.2.2.2).bind fun bt393 => ((X_spec_SameMove k bt387.1 bt387.2.1 bt387.2.2.1 bt387.2.2.2).bind fun bt395 => (if ((bt362.2.2 == bt366.2.2) = true) then (if ((bt362.1.toList == bt366.1.toList && (bt362.2.1 == bt366.2.1)) = true) then (if ((bt370.2 == bt372.2) = true) then (if bt370.1.toList = bt372.1.toList then (if ((bt374.2 == bt376.2) = true) then (if bt374.1.toList = bt376.1.toList then (if ((bt379.2.2 == bt383.2.2) = true) then (if ((bt379.1.toList == bt383.1.toList && (bt379.2.1 == bt383.2.1)) = true) then (if ((bt393.2 == bt395.2) = true) then (if ((bt393.1 == bt395.1) = true) then ((X_impl_IsMove k bt359.1 bt359.2).bind fun t397 => (if ((bt362.2.2 == t397) = true) then (if ((bt370.2 == bt362.2.2) = true) then (X_j0 k bt362.2.2 bt374.1 bt393.2 bt395.1 (!(bt374.2 == bt362.2.2)) bt359.1 bt359.2 bt362.1 bt362.2.1 bt366.1 bt366.2.1 bt387.1 bt387.2.1 bt387.2.2.1 bt387.2.2.2) else (X_j0 k bt362.2.2 bt374.1 bt393.2 bt395.1 true bt359.1 bt359.2 bt362.1 bt362.2.1 bt366.1 bt366.2.1 bt387.1 bt387.2.1 bt387.2.2.1 bt387.2.2.2)) else (X_j0 k bt362.2.2 bt374.1 bt393.2 bt395.1 true bt359.1 bt359.2 bt362.1 bt362.2.1 bt366.1 bt366.2.1 bt387.1 bt387.2.1 bt387.2.2.1 bt387.2.2.2))) else (X_j0 k bt362.2.2 bt374.1 bt393.2 bt395.1 true bt359.1 bt359.2 bt362.1 bt362.2.1 bt366.1 bt366.2.1 bt387.1 bt387.2.1 bt387.2.2.1 bt387.2.2.2)) else (X_j0 k bt362.2.2 bt374.1 bt393.2 bt395.1 true bt359.1 bt359.2 bt362.1 bt362.2.1 bt366.1 bt366.2.1 bt387.1 bt387.2.1 bt387.2.2.1 bt387.2.2.2)) else (X_j0 k bt362.2.2 bt374.1 bt393.2 bt395.1 true bt359.1 bt359.2 bt362.1 bt362.2.1 bt366.1 bt366.2.1 bt387.1 bt387.2.1 bt387.2.2.1 bt387.2.2.2)) else (X_j0 k bt362.2.2 bt374.1 bt393.2 bt395.1 true bt359.1 bt359.2 bt362.1 bt362.2.1 bt366.1 bt366.2.1 bt387.1 bt387.2.1 bt387.2.2.1 bt387.2.2.2)) else (X_j0 k bt362.2.2 bt374.1 bt393.2 bt395.1 true bt359.1 bt359.2 bt362.1 bt362.2.1 bt366.1 bt366.2.1 bt387.1 bt387.2.1 bt387.2.2.1 bt387.2.2.2)) else (X_j0 k bt362.2.2 bt374.1 bt393.2 bt395.1 true bt359.1 bt359.2 bt362.1 bt362.2.1 bt366.1 bt366.2.1 bt387.1 bt387.2.1 bt387.2.2.1 bt387.2.2.2)) else (X_j0 k bt362.2.2 bt374.1 bt393.2 bt395.1 true bt359.1 bt359.2 bt362.1 bt362.2.1 bt366.1 bt366.2.1 bt387.1 bt387.2.1 bt387.2.2.1 bt387.2.2.2)) else (X_j0 k bt362.2.2 bt374.1 bt393.2 bt395.1 true bt359.1 bt359.2 bt362.1 bt362.2.1 bt366.1 bt366.2.1 bt387.1 bt387.2.1 bt387.2.2.1 bt387.2.2.2)) else (X_j0 k bt362.2.2 bt374.1 bt393.2 bt395.1 true bt359.1 bt359.2 bt362.1 bt362.2.1 bt366.1 bt366.2.1 bt387.1 bt387.2.1 bt387.2.2.1 bt387.2.2.2)) else (X_j0 k bt362.2.2 bt374.1 bt393.2 bt395.1 true bt359.1 bt359.2 bt362.1 bt362.2.1 bt366.1 bt366.2.1 bt387.1 bt387.2.1 bt387.2.2.1 bt387.2.2.2)))))))))))))))
theorem laws_FnMoves.T_f [DLT : DecidableLT Int] [DLE : DecidableLE Int] (X_spec_DrawNormalMove : type_of% @spec_DrawNormalMove.f) (X_impl_NormalMove : type_of% @impl_NormalMove.f) (X_spec_NormalMove : type_of% @spec_NormalMove.f) (X_impl_AllSteps : type_of% @impl_AllSteps.f) (X_spec_AllSteps : type_of% @spec_AllSteps.f) (X_impl_MoveText : type_of% @impl_MoveText.f) (X_spec_MoveText : type_of% @spec_MoveText.f) (X_spec_DrawParseMove : type_of% @spec_DrawParseMove.f) (X_impl_ParseMove : type_of% @impl_ParseMove.f) (X_spec_ParseMove : type_of% @spec_ParseMove.f) (X_spec_DrawSameMove : type_of% @spec_DrawSameMove.f) (X_impl_SameMove : type_of% @impl_SameMove.f) (X_spec_SameMove : type_of% @spec_SameMove.f) (X_impl_IsMove : type_of% @impl_IsMove.f) (X_j0 : type_of% @laws_FnMoves.j0) (X_j1 : type_of% @laws_FnMoves.j1) (k : Nat) (x) : laws_FnMoves.B_f X_spec_DrawNormalMove X_impl_NormalMove X_spec_NormalMove X_impl_AllSteps X_spec_AllSteps X_impl_MoveText X_spec_MoveText X_spec_DrawParseMove X_impl_ParseMove X_spec_ParseMove X_spec_DrawSameMove X_impl_SameMove X_spec_SameMove X_impl_IsMove X_j0 X_j1 k x.1 x.2 = Refl.run Tryz.f4 (laws_FnMoves.Ed_ X_spec_DrawNormalMove X_impl_NormalMove X_spec_NormalMove X_impl_AllSteps X_spec_AllSteps X_impl_MoveText X_spec_MoveText X_spec_DrawParseMove X_impl_ParseMove X_spec_ParseMove X_spec_DrawSameMove X_impl_SameMove X_spec_SameMove X_impl_IsMove X_j0 X_j1) (laws_FnMoves.e k).args (laws_FnMoves.e k).res [laws_FnMoves.Pd_j0 X_spec_DrawNormalMove X_impl_NormalMove X_spec_NormalMove X_impl_AllSteps X_spec_AllSteps X_impl_MoveText X_spec_MoveText X_spec_DrawParseMove X_impl_ParseMove X_spec_ParseMove X_spec_DrawSameMove X_impl_SameMove X_spec_SameMove X_impl_IsMove X_j0 X_j1, laws_FnMoves.Pd_j1 X_spec_DrawNormalMove X_impl_NormalMove X_spec_NormalMove X_impl_AllSteps X_spec_AllSteps X_impl_MoveText X_spec_MoveText X_spec_DrawParseMove X_impl_ParseMove X_spec_ParseMove X_spec_DrawSameMove X_impl_SameMove X_spec_SameMove X_impl_IsMove X_j0 X_j1] k x := by kernel_rfl
theorem laws_FnMoves.ok (k : Nat) : Refl.EntOK Tryz.prog (laws_FnMoves.e k) := Refl.ent_ok 1000000 k GC (fun k => [spec_DrawNormalMove.e k, impl_NormalMove.e k, spec_NormalMove.e k, impl_AllSteps.e k, spec_AllSteps.e k, impl_MoveText.e k, spec_MoveText.e k, spec_DrawParseMove.e k, impl_ParseMove.e k, spec_ParseMove.e k, spec_DrawSameMove.e k, impl_SameMove.e k, spec_SameMove.e k, impl_IsMove.e k]) (fun k => ⟨spec_DrawNormalMove.ok k, impl_NormalMove.ok k, spec_NormalMove.ok k, impl_AllSteps.ok k, spec_AllSteps.ok k, impl_MoveText.ok k, spec_MoveText.ok k, spec_DrawParseMove.ok k, impl_ParseMove.ok k, spec_ParseMove.ok k, spec_DrawSameMove.ok k, impl_SameMove.ok k, spec_SameMove.ok k, impl_IsMove.ok k, trivial⟩) Tryz.func4 (by kernel_rfl) [laws_FnMoves.pj0, laws_FnMoves.pj1] (ps := [laws_FnMoves.pj0, laws_FnMoves.pj1]) (by kernel_rfl) ⟨⟨fun x => by kernel_rfl, fun k x => Eq.trans (by kernel_rfl) (Eq.trans (laws_FnMoves.T_j0 spec_DrawNormalMove.f impl_NormalMove.f spec_NormalMove.f impl_AllSteps.f spec_AllSteps.f impl_MoveText.f spec_MoveText.f spec_DrawParseMove.f impl_ParseMove.f spec_ParseMove.f spec_DrawSameMove.f impl_SameMove.f spec_SameMove.f impl_IsMove.f laws_FnMoves.j0 laws_FnMoves.j1 k x) (by kernel_rfl))⟩, ⟨fun x => by kernel_rfl, fun k x => Eq.trans (by kernel_rfl) (Eq.trans (laws_FnMoves.T_j1 spec_DrawNormalMove.f impl_NormalMove.f spec_NormalMove.f impl_AllSteps.f spec_AllSteps.f impl_MoveText.f spec_MoveText.f spec_DrawParseMove.f impl_ParseMove.f spec_ParseMove.f spec_DrawSameMove.f impl_SameMove.f spec_SameMove.f impl_IsMove.f laws_FnMoves.j0 laws_FnMoves.j1 k x) (by kernel_rfl))⟩, trivial⟩ (fun x => Eq.trans (by kernel_rfl) (Eq.trans (laws_FnMoves.T_f spec_DrawNormalMove.f impl_NormalMove.f spec_NormalMove.f impl_AllSteps.f spec_AllSteps.f impl_MoveText.f spec_MoveText.f spec_DrawParseMove.f impl_ParseMove.f spec_ParseMove.f spec_DrawSameMove.f impl_SameMove.f spec_SameMove.f impl_IsMove.f laws_FnMoves.j0 laws_FnMoves.j1 k x) (by kernel_rfl)))

theorem laws_FnMoves.calls (k : Nat) (A0 : Option Addr) (c0 : Nat) (l0 : List Int) (A1 : Option Addr) (c1 : Nat) (l1 : List Int) (r : Bool) (w : World) (hlw_ : Lw w) (hr0 : Kd.C (Kd.int .u8) w A0 l0.length l0) (hc0 : l0.length ≤ c0) (hr1 : Kd.C (Kd.int .u8) w A1 l1.length l1) (hc1 : l1.length ≤ c1) (h : laws_FnMoves.f k l0 l1 = some r) :
    Calls Tryz.prog 4 #[.slice A0 l0.length c0, .slice A1 l1.length c1] w fun e w' => e = .returned (.bool r) ∧ Below w.heap.size w w' :=
 Refl.EntOK.use (laws_FnMoves.ok k) (l0, l1) r h (vals := [.slice A0 l0.length c0, .slice A1 l1.length c1]) (by kernel_rfl) (by kernel_rfl) ⟨row_of ((Kd.int .u8)) (rkInt .u8) (fun _ _ _ h => h) rfl hr0 hc0, row_of ((Kd.int .u8)) (rkInt .u8) (fun _ _ _ h => h) rfl hr1 hc1, trivial⟩ (by kernel_rfl) (hlw := hlw_)

end Go.Proofs.YtgpkeclojbcgoaaGreatDoor.PA
