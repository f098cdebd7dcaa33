-- Written by a program of this session (wip/tools/myprint.py). Not trusted: Lean checks it.
import Derived.Test.YtgpkeclojbcgoaaCtx
import Derived.Test.YtgpkeclojbcgoaaPAx1
namespace Go.Proofs.Ytgpkeclojbcgoaa.PA
open Go.RowKit Go.Proofs.YtgpkeclojbcgoaaW.PrintWords Go.Proofs.YtgpkeclojbcgoaaW.PrintLast Go.Proofs.YtgpkeclojbcgoaaW.PrintMore
attribute [local go_sem] max2_int min2_int max_two min_two max_three min_three max_four min_four   -- for this text's walks alone
set_option linter.unusedVariables false
set_option linter.unusedSimpArgs false

/-! ### spec_l1Cur_desk: function 68 -/

mutual
def spec_l1Cur_desk.j0 : Nat → Int → List Int → Int → Int → List ByteArray → List (S38) → List (S38) → Option (List ByteArray × (List (S38)) × (List (S38)) × List Int × Int × Int)
  | 0, _, _, _, _, _, _, _ => none
  | k + 1, x5, x1000, x1001, x1002, x478000, x478001, x478002 => spec_l1Cur_desk.l0 k x5 x1000 x1001 x1002 x478000 x478001 x478002
def spec_l1Cur_desk.l0 : Nat → Int → List Int → Int → Int → List ByteArray → List (S38) → List (S38) → Option (List ByteArray × (List (S38)) × (List (S38)) × List Int × Int × Int)
  | 0, _, _, _, _, _, _, _ => none
  | k + 1, x5, x1000, x1001, x1002, x478000, x478001, x478002 => if x5 > 0 then ((spec_unNow.f k x478000 x478001 x478002).bind fun t489 => ((spec_l1Cur_pick.f x1000 x1001 x1002 (wrap64 ((t489.length : Int) + 1))).bind fun bt492 => ((spec_l1Cur_pick.f bt492.2.1 bt492.2.2.1 bt492.2.2.2 7).bind fun bt497 => (if bt497.1 = 0 then ((spec_l1Cur_gloss.f bt497.2.1 bt497.2.2.1 bt497.2.2.2).bind fun bt501 => ((spec_InsertItem.f k x478000 x478001 x478002 bt492.1 bt501.1).bind fun bt505 => (if bt505.2.2.2 = true then (spec_l1Cur_desk.l0 k (wrap64 (x5 - 1)) bt501.2.1 bt501.2.2.1 bt501.2.2.2 bt505.1 bt505.2.1 bt505.2.2.1) else (spec_l1Cur_desk.l0 k (wrap64 (x5 - 1)) bt501.2.1 bt501.2.2.1 bt501.2.2.2 x478000 x478001 x478002)))) else (if bt497.1 = 1 then ((spec_l1Cur_gloss.f bt497.2.1 bt497.2.2.1 bt497.2.2.2).bind fun bt515 => ((spec_InsertItem.f k x478000 x478001 x478002 bt492.1 bt515.1).bind fun bt519 => (if bt519.2.2.2 = true then (spec_l1Cur_desk.l0 k (wrap64 (x5 - 1)) bt515.2.1 bt515.2.2.1 bt515.2.2.2 bt519.1 bt519.2.1 bt519.2.2.1) else (spec_l1Cur_desk.l0 k (wrap64 (x5 - 1)) bt515.2.1 bt515.2.2.1 bt515.2.2.2 x478000 x478001 x478002)))) else (if bt497.1 = 2 then ((spec_DeleteItem.f k x478000 x478001 x478002 bt492.1).bind fun bt529 => (if bt529.2.2.2 = true then (spec_l1Cur_desk.l0 k (wrap64 (x5 - 1)) bt497.2.1 bt497.2.2.1 bt497.2.2.2 bt529.1 bt529.2.1 bt529.2.2.1) else (spec_l1Cur_desk.l0 k (wrap64 (x5 - 1)) bt497.2.1 bt497.2.2.1 bt497.2.2.2 x478000 x478001 x478002))) else (if bt497.1 = 3 then ((spec_l1Cur_gloss.f bt497.2.1 bt497.2.2.1 bt497.2.2.2).bind fun bt539 => ((spec_ReplaceItem.f k x478000 x478001 x478002 bt492.1 bt539.1).bind fun bt543 => (if bt543.2.2.2 = true then (spec_l1Cur_desk.l0 k (wrap64 (x5 - 1)) bt539.2.1 bt539.2.2.1 bt539.2.2.2 bt543.1 bt543.2.1 bt543.2.2.1) else (spec_l1Cur_desk.l0 k (wrap64 (x5 - 1)) bt539.2.1 bt539.2.2.1 bt539.2.2.2 x478000 x478001 x478002)))) else (if bt497.1 = 4 then (if x5 < 20 then (spec_l1Cur_desk.j2 k x5 false true bt497.2.1 bt497.2.2.1 bt497.2.2.2 x478000 x478001 x478002 x478000 x478001 x478002) else ((spec_l1Cur_one.f bt497.2.1 bt497.2.2.1 bt497.2.2.2 8).bind fun bt553 => (spec_l1Cur_desk.j2 k x5 false bt553.1 bt553.2.1 bt553.2.2.1 bt553.2.2.2 x478000 x478001 x478002 x478000 x478001 x478002))) else (if bt497.1 = 5 then (if x5 < 20 then (spec_l1Cur_desk.j2 k x5 false true bt497.2.1 bt497.2.2.1 bt497.2.2.2 x478000 x478001 x478002 x478000 x478001 x478002) else ((spec_l1Cur_one.f bt497.2.1 bt497.2.2.1 bt497.2.2.2 8).bind fun bt567 => (spec_l1Cur_desk.j2 k x5 false bt567.1 bt567.2.1 bt567.2.2.1 bt567.2.2.2 x478000 x478001 x478002 x478000 x478001 x478002))) else ((spec_RedoEdit.f k x478000 x478001 x478002).bind fun bt581 => (if bt581.2.2.2 = true then (spec_l1Cur_desk.l0 k (wrap64 (x5 - 1)) bt497.2.1 bt497.2.2.1 bt497.2.2.2 bt581.1 bt581.2.1 bt581.2.2.1) else (spec_l1Cur_desk.l0 k (wrap64 (x5 - 1)) bt497.2.1 bt497.2.2.1 bt497.2.2.2 x478000 x478001 x478002)))))))))))) else ((spec_l1Cur_pick.f x1000 x1001 x1002 24).bind fun bt591 => (if bt591.1 = 0 then ((spec_l1Cur_deskEdit.f k bt591.2.1 bt591.2.2.1 bt591.2.2.2).bind fun bt595 => (if x478001.length < 2932031007402 then (some (x478000, (x478001 ++ [(⟨bt595.1, bt595.2.1, bt595.2.2.1, bt595.2.2.2.1⟩ : S38)]), x478002, bt595.2.2.2.2.1, bt595.2.2.2.2.2.1, bt595.2.2.2.2.2.2)) else (none))) else (if bt591.1 = 1 then ((spec_l1Cur_deskEdit.f k bt591.2.1 bt591.2.2.1 bt591.2.2.2).bind fun bt605 => (if x478002.length < 2932031007402 then (some (x478000, x478001, (x478002 ++ [(⟨bt605.1, bt605.2.1, bt605.2.2.1, bt605.2.2.2.1⟩ : S38)]), bt605.2.2.2.2.1, bt605.2.2.2.2.2.1, bt605.2.2.2.2.2.2)) else (none))) else (if bt591.1 = 2 then ((spec_l1Cur_items.f k bt591.2.1 bt591.2.2.1 bt591.2.2.2).bind fun bt615 => (some (bt615.1, x478001, x478002, bt615.2.1, bt615.2.2.1, bt615.2.2.2))) else (some (x478000, x478001, x478002, bt591.2.1, bt591.2.2.1, bt591.2.2.2))))))
def spec_l1Cur_desk.j2 : Nat → Int → Bool → Bool → List Int → Int → Int → List ByteArray → List (S38) → List (S38) → List ByteArray → List (S38) → List (S38) → Option (List ByteArray × (List (S38)) × (List (S38)) × List Int × Int × Int)
  | 0, _, _, _, _, _, _, _, _, _, _, _, _ => none
  | k + 1, x5, x8, x78, x1000, x1001, x1002, x478000, x478001, x478002, x497000, x497001, x497002 => if x78 = true then ((spec_UndoEdit.f k x478000 x478001 x478002).bind fun bt557 => (if bt557.2.2.2 = true then (spec_l1Cur_desk.l0 k (wrap64 (x5 - 1)) x1000 x1001 x1002 bt557.1 bt557.2.1 bt557.2.2.1) else (spec_l1Cur_desk.l0 k (wrap64 (x5 - 1)) x1000 x1001 x1002 x478000 x478001 x478002))) else (if x8 = true then (spec_l1Cur_desk.l0 k (wrap64 (x5 - 1)) x1000 x1001 x1002 x497000 x497001 x497002) else (spec_l1Cur_desk.l0 k (wrap64 (x5 - 1)) x1000 x1001 x1002 x478000 x478001 x478002))
def spec_l1Cur_desk.j3 : Nat → Int → Bool → Bool → List Int → Int → Int → List ByteArray → List (S38) → List (S38) → List ByteArray → List (S38) → List (S38) → Option (List ByteArray × (List (S38)) × (List (S38)) × List Int × Int × Int)
  | 0, _, _, _, _, _, _, _, _, _, _, _, _ => none
  | k + 1, x5, x8, x78, x1000, x1001, x1002, x478000, x478001, x478002, x497000, x497001, x497002 => if x78 = true then ((spec_UndoEdit.f k x478000 x478001 x478002).bind fun bt571 => (if bt571.2.2.2 = true then (spec_l1Cur_desk.l0 k (wrap64 (x5 - 1)) x1000 x1001 x1002 bt571.1 bt571.2.1 bt571.2.2.1) else (spec_l1Cur_desk.l0 k (wrap64 (x5 - 1)) x1000 x1001 x1002 x478000 x478001 x478002))) else (if x8 = true then (spec_l1Cur_desk.l0 k (wrap64 (x5 - 1)) x1000 x1001 x1002 x497000 x497001 x497002) else (spec_l1Cur_desk.l0 k (wrap64 (x5 - 1)) x1000 x1001 x1002 x478000 x478001 x478002))
end

def spec_l1Cur_desk.f (k : Nat) (s0_0 : List Int) (s0_1 : Int) (s0_2 : Int) : Option (List ByteArray × (List (S38)) × (List (S38)) × List Int × Int × Int) := (spec_l1Cur_items.f k s0_0 s0_1 s0_2).bind fun bt461 => ((spec_StartDesk.f k bt461.1).bind fun bt467 => (if bt467.2.2.2 = true then ((spec_l1Cur_pick.f bt461.2.1 bt461.2.2.1 bt461.2.2.2 10).bind fun bt481 => ((spec_l1Cur_one.f bt481.2.1 bt481.2.2.1 bt481.2.2.2 12).bind fun bt485 => (if bt485.1 = true then (spec_l1Cur_desk.l0 k 60 bt485.2.1 bt485.2.2.1 bt485.2.2.2 bt467.1 bt467.2.1 bt467.2.2.1) else (spec_l1Cur_desk.l0 k bt481.1 bt485.2.1 bt485.2.2.1 bt485.2.2.2 bt467.1 bt467.2.1 bt467.2.2.1)))) else (some ((([(⟨#[115, 117, 110]⟩ : ByteArray)] : List ByteArray)), ([] : List (S38)), ([] : List (S38)), bt461.2.1, bt461.2.2.1, bt461.2.2.2))))

theorem spec_l1Cur_desk.mono_l : ∀ k, (∀ y0 y1 y2 y3 y4 y5 y6, LeO (spec_l1Cur_desk.j0 k y0 y1 y2 y3 y4 y5 y6) (spec_l1Cur_desk.j0 (k + 1) y0 y1 y2 y3 y4 y5 y6)) ∧ (∀ y0 y1 y2 y3 y4 y5 y6, LeO (spec_l1Cur_desk.l0 k y0 y1 y2 y3 y4 y5 y6) (spec_l1Cur_desk.l0 (k + 1) y0 y1 y2 y3 y4 y5 y6)) ∧ (∀ y0 y1 y2 y3 y4 y5 y6 y7 y8 y9 y10 y11, LeO (spec_l1Cur_desk.j2 k y0 y1 y2 y3 y4 y5 y6 y7 y8 y9 y10 y11) (spec_l1Cur_desk.j2 (k + 1) y0 y1 y2 y3 y4 y5 y6 y7 y8 y9 y10 y11)) ∧ (∀ y0 y1 y2 y3 y4 y5 y6 y7 y8 y9 y10 y11, LeO (spec_l1Cur_desk.j3 k y0 y1 y2 y3 y4 y5 y6 y7 y8 y9 y10 y11) (spec_l1Cur_desk.j3 (k + 1) y0 y1 y2 y3 y4 y5 y6 y7 y8 y9 y10 y11))
  | 0 => ⟨fun _ _ _ _ _ _ _ r h => by simp [spec_l1Cur_desk.j0] at h, fun _ _ _ _ _ _ _ r h => by simp [spec_l1Cur_desk.l0] at h, fun _ _ _ _ _ _ _ _ _ _ _ _ r h => by simp [spec_l1Cur_desk.j2] at h, fun _ _ _ _ _ _ _ _ _ _ _ _ r h => by simp [spec_l1Cur_desk.j3] at h⟩
  | k + 1 => by
    obtain ⟨ih0, ih1, ih2, ih3⟩ := spec_l1Cur_desk.mono_l k
    refine ⟨?_, ?_, ?_, ?_⟩
    · intro y0 y1 y2 y3 y4 y5 y6
      unfold spec_l1Cur_desk.j0
      repeat' first
      | (with_reducible exact ih0 _ _ _ _ _ _ _)
      | (with_reducible exact ih1 _ _ _ _ _ _ _)
      | (with_reducible exact ih2 _ _ _ _ _ _ _ _ _ _ _ _)
      | (with_reducible exact ih3 _ _ _ _ _ _ _ _ _ _ _ _)
      | (with_reducible exact spec_DeleteItem.mono _ _ _ _ _)
      | (with_reducible exact spec_InsertItem.mono _ _ _ _ _ _)
      | (with_reducible exact spec_RedoEdit.mono _ _ _ _)
      | (with_reducible exact spec_ReplaceItem.mono _ _ _ _ _ _)
      | (with_reducible exact spec_StartDesk.mono _ _)
      | (with_reducible exact spec_UndoEdit.mono _ _ _ _)
      | (with_reducible exact spec_l1Cur_deskEdit.mono _ _ _ _)
      | (with_reducible exact spec_l1Cur_items.mono _ _ _ _)
      | (with_reducible exact spec_unNow.mono _ _ _ _)
      | (with_reducible exact LeO.refl _)
      | (with_reducible exact LeO.none _)
      | (with_reducible refine LeO.ite ?_ ?_)
      | (with_reducible refine LeO.bind ?_ (fun _ => ?_))
      | exact ih0 _ _ _ _ _ _ _
      | exact ih1 _ _ _ _ _ _ _
      | exact ih2 _ _ _ _ _ _ _ _ _ _ _ _
      | exact ih3 _ _ _ _ _ _ _ _ _ _ _ _
      | exact spec_DeleteItem.mono _ _ _ _ _
      | exact spec_InsertItem.mono _ _ _ _ _ _
      | exact spec_RedoEdit.mono _ _ _ _
      | exact spec_ReplaceItem.mono _ _ _ _ _ _
      | exact spec_StartDesk.mono _ _
      | exact spec_UndoEdit.mono _ _ _ _
      | exact spec_l1Cur_deskEdit.mono _ _ _ _
      | exact spec_l1Cur_items.mono _ _ _ _
      | exact spec_unNow.mono _ _ _ _
      | exact LeO.none _
      | refine LeO.ite ?_ ?_
      | refine LeO.bind ?_ (fun _ => ?_)
    · intro y0 y1 y2 y3 y4 y5 y6
      unfold spec_l1Cur_desk.l0
      repeat' first
      | (with_reducible exact ih0 _ _ _ _ _ _ _)
      | (with_reducible exact ih1 _ _ _ _ _ _ _)
      | (with_reducible exact ih2 _ _ _ _ _ _ _ _ _ _ _ _)
      | (with_reducible exact ih3 _ _ _ _ _ _ _ _ _ _ _ _)
      | (with_reducible exact spec_DeleteItem.mono _ _ _ _ _)
      | (with_reducible exact spec_InsertItem.mono _ _ _ _ _ _)
      | (with_reducible exact spec_RedoEdit.mono _ _ _ _)
      | (with_reducible exact spec_ReplaceItem.mono _ _ _ _ _ _)
      | (with_reducible exact spec_StartDesk.mono _ _)
      | (with_reducible exact spec_UndoEdit.mono _ _ _ _)
      | (with_reducible exact spec_l1Cur_deskEdit.mono _ _ _ _)
      | (with_reducible exact spec_l1Cur_items.mono _ _ _ _)
      | (with_reducible exact spec_unNow.mono _ _ _ _)
      | (with_reducible exact LeO.refl _)
      | (with_reducible exact LeO.none _)
      | (with_reducible refine LeO.ite ?_ ?_)
      | (with_reducible refine LeO.bind ?_ (fun _ => ?_))
      | exact ih0 _ _ _ _ _ _ _
      | exact ih1 _ _ _ _ _ _ _
      | exact ih2 _ _ _ _ _ _ _ _ _ _ _ _
      | exact ih3 _ _ _ _ _ _ _ _ _ _ _ _
      | exact spec_DeleteItem.mono _ _ _ _ _
      | exact spec_InsertItem.mono _ _ _ _ _ _
      | exact spec_RedoEdit.mono _ _ _ _
      | exact spec_ReplaceItem.mono _ _ _ _ _ _
      | exact spec_StartDesk.mono _ _
      | exact spec_UndoEdit.mono _ _ _ _
      | exact spec_l1Cur_deskEdit.mono _ _ _ _
      | exact spec_l1Cur_items.mono _ _ _ _
      | exact spec_unNow.mono _ _ _ _
      | exact LeO.none _
      | refine LeO.ite ?_ ?_
      | refine LeO.bind ?_ (fun _ => ?_)
    · intro y0 y1 y2 y3 y4 y5 y6 y7 y8 y9 y10 y11
      unfold spec_l1Cur_desk.j2
      repeat' first
      | (with_reducible exact ih0 _ _ _ _ _ _ _)
      | (with_reducible exact ih1 _ _ _ _ _ _ _)
      | (with_reducible exact ih2 _ _ _ _ _ _ _ _ _ _ _ _)
      | (with_reducible exact ih3 _ _ _ _ _ _ _ _ _ _ _ _)
      | (with_reducible exact spec_DeleteItem.mono _ _ _ _ _)
      | (with_reducible exact spec_InsertItem.mono _ _ _ _ _ _)
      | (with_reducible exact spec_RedoEdit.mono _ _ _ _)
      | (with_reducible exact spec_ReplaceItem.mono _ _ _ _ _ _)
      | (with_reducible exact spec_StartDesk.mono _ _)
      | (with_reducible exact spec_UndoEdit.mono _ _ _ _)
      | (with_reducible exact spec_l1Cur_deskEdit.mono _ _ _ _)
      | (with_reducible exact spec_l1Cur_items.mono _ _ _ _)
      | (with_reducible exact spec_unNow.mono _ _ _ _)
      | (with_reducible exact LeO.refl _)
      | (with_reducible exact LeO.none _)
      | (with_reducible refine LeO.ite ?_ ?_)
      | (with_reducible refine LeO.bind ?_ (fun _ => ?_))
      | exact ih0 _ _ _ _ _ _ _
      | exact ih1 _ _ _ _ _ _ _
      | exact ih2 _ _ _ _ _ _ _ _ _ _ _ _
      | exact ih3 _ _ _ _ _ _ _ _ _ _ _ _
      | exact spec_DeleteItem.mono _ _ _ _ _
      | exact spec_InsertItem.mono _ _ _ _ _ _
      | exact spec_RedoEdit.mono _ _ _ _
      | exact spec_ReplaceItem.mono _ _ _ _ _ _
      | exact spec_StartDesk.mono _ _
      | exact spec_UndoEdit.mono _ _ _ _
      | exact spec_l1Cur_deskEdit.mono _ _ _ _
      | exact spec_l1Cur_items.mono _ _ _ _
      | exact spec_unNow.mono _ _ _ _
      | exact LeO.none _
      | refine LeO.ite ?_ ?_
      | refine LeO.bind ?_ (fun _ => ?_)
    · intro y0 y1 y2 y3 y4 y5 y6 y7 y8 y9 y10 y11
      unfold spec_l1Cur_desk.j3
      repeat' first
      | (with_reducible exact ih0 _ _ _ _ _ _ _)
      | (with_reducible exact ih1 _ _ _ _ _ _ _)
      | (with_reducible exact ih2 _ _ _ _ _ _ _ _ _ _ _ _)
      | (with_reducible exact ih3 _ _ _ _ _ _ _ _ _ _ _ _)
      | (with_reducible exact spec_DeleteItem.mono _ _ _ _ _)
      | (with_reducible exact spec_InsertItem.mono _ _ _ _ _ _)
      | (with_reducible exact spec_RedoEdit.mono _ _ _ _)
      | (with_reducible exact spec_ReplaceItem.mono _ _ _ _ _ _)
      | (with_reducible exact spec_StartDesk.mono _ _)
      | (with_reducible exact spec_UndoEdit.mono _ _ _ _)
      | (with_reducible exact spec_l1Cur_deskEdit.mono _ _ _ _)
      | (with_reducible exact spec_l1Cur_items.mono _ _ _ _)
      | (with_reducible exact spec_unNow.mono _ _ _ _)
      | (with_reducible exact LeO.refl _)
      | (with_reducible exact LeO.none _)
      | (with_reducible refine LeO.ite ?_ ?_)
      | (with_reducible refine LeO.bind ?_ (fun _ => ?_))
      | exact ih0 _ _ _ _ _ _ _
      | exact ih1 _ _ _ _ _ _ _
      | exact ih2 _ _ _ _ _ _ _ _ _ _ _ _
      | exact ih3 _ _ _ _ _ _ _ _ _ _ _ _
      | exact spec_DeleteItem.mono _ _ _ _ _
      | exact spec_InsertItem.mono _ _ _ _ _ _
      | exact spec_RedoEdit.mono _ _ _ _
      | exact spec_ReplaceItem.mono _ _ _ _ _ _
      | exact spec_StartDesk.mono _ _
      | exact spec_UndoEdit.mono _ _ _ _
      | exact spec_l1Cur_deskEdit.mono _ _ _ _
      | exact spec_l1Cur_items.mono _ _ _ _
      | exact spec_unNow.mono _ _ _ _
      | exact LeO.none _
      | refine LeO.ite ?_ ?_
      | refine LeO.bind ?_ (fun _ => ?_)

theorem spec_l1Cur_desk.mono : ∀ a0 a1 a2 k, LeO (spec_l1Cur_desk.f k a0 a1 a2) (spec_l1Cur_desk.f (k + 1) a0 a1 a2) := by
  intro a0 a1 a2 k
  obtain ⟨ih0, ih1, ih2, ih3⟩ := spec_l1Cur_desk.mono_l k
  unfold spec_l1Cur_desk.f
  repeat' first
      | (with_reducible exact ih0 _ _ _ _ _ _ _)
      | (with_reducible exact ih1 _ _ _ _ _ _ _)
      | (with_reducible exact ih2 _ _ _ _ _ _ _ _ _ _ _ _)
      | (with_reducible exact ih3 _ _ _ _ _ _ _ _ _ _ _ _)
      | (with_reducible exact spec_DeleteItem.mono _ _ _ _ _)
      | (with_reducible exact spec_InsertItem.mono _ _ _ _ _ _)
      | (with_reducible exact spec_RedoEdit.mono _ _ _ _)
      | (with_reducible exact spec_ReplaceItem.mono _ _ _ _ _ _)
      | (with_reducible exact spec_StartDesk.mono _ _)
      | (with_reducible exact spec_UndoEdit.mono _ _ _ _)
      | (with_reducible exact spec_l1Cur_deskEdit.mono _ _ _ _)
      | (with_reducible exact spec_l1Cur_items.mono _ _ _ _)
      | (with_reducible exact spec_unNow.mono _ _ _ _)
      | (with_reducible exact LeO.refl _)
      | (with_reducible exact LeO.none _)
      | (with_reducible refine LeO.ite ?_ ?_)
      | (with_reducible refine LeO.bind ?_ (fun _ => ?_))
      | exact ih0 _ _ _ _ _ _ _
      | exact ih1 _ _ _ _ _ _ _
      | exact ih2 _ _ _ _ _ _ _ _ _ _ _ _
      | exact ih3 _ _ _ _ _ _ _ _ _ _ _ _
      | exact spec_DeleteItem.mono _ _ _ _ _
      | exact spec_InsertItem.mono _ _ _ _ _ _
      | exact spec_RedoEdit.mono _ _ _ _
      | exact spec_ReplaceItem.mono _ _ _ _ _ _
      | exact spec_StartDesk.mono _ _
      | exact spec_UndoEdit.mono _ _ _ _
      | exact spec_l1Cur_deskEdit.mono _ _ _ _
      | exact spec_l1Cur_items.mono _ _ _ _
      | exact spec_unNow.mono _ _ _ _
      | exact LeO.none _
      | refine LeO.ite ?_ ?_
      | refine LeO.bind ?_ (fun _ => ?_)

def spec_l1Cur_desk.e (k : Nat) : Refl.Ent G := ⟨68, [(.wr 1000000 82 gL4)], .one (.agg gL1), fun x => spec_l1Cur_desk.f k x.1 x.2.1 x.2.2⟩
def spec_l1Cur_desk.pl0 : Refl.Pn G (Refl.PT G (spec_l1Cur_desk.e 0).ol) := ⟨true, 0, ⟨[(5, .v (.c li)), (0, .box 1000000 0), (3, .box 3 0), (2, .box 2 0)], [(1000000, 82, gL5), (3, 27, gL8), (2, 27, gL6)]⟩, fun k x => spec_l1Cur_desk.l0 k x.1 x.2.1 x.2.2.1 x.2.2.2.1 x.2.2.2.2.1 x.2.2.2.2.2.1 x.2.2.2.2.2.2⟩
def spec_l1Cur_desk.pj2 : Refl.Pn G (Refl.PT G (spec_l1Cur_desk.e 0).ol) := ⟨false, 1000022, ⟨[(5, .v (.c li)), (8, .k (Value.bool false)), (78, .v (.c .bool)), (0, .box 1000000 0), (3, .box 3 0), (7, .box 7 0), (2, .box 2 0)], [(1000000, 82, gL5), (3, 27, gL8), (7, 27, gL2), (2, 27, gL6)]⟩, fun k x => spec_l1Cur_desk.j2 k x.1 false x.2.1 x.2.2.1 x.2.2.2.1 x.2.2.2.2.1 x.2.2.2.2.2.1 x.2.2.2.2.2.2.1 x.2.2.2.2.2.2.2.1 x.2.2.2.2.2.2.2.2.1 x.2.2.2.2.2.2.2.2.2.1 x.2.2.2.2.2.2.2.2.2.2⟩
def spec_l1Cur_desk.E_ (X_spec_l1Cur_items : type_of% @spec_l1Cur_items.f) (X_spec_StartDesk : type_of% @spec_StartDesk.f) (X_spec_l1Cur_pick : type_of% @spec_l1Cur_pick.f) (X_spec_l1Cur_one : type_of% @spec_l1Cur_one.f) (X_spec_unNow : type_of% @spec_unNow.f) (X_spec_l1Cur_gloss : type_of% @spec_l1Cur_gloss.f) (X_spec_InsertItem : type_of% @spec_InsertItem.f) (X_spec_DeleteItem : type_of% @spec_DeleteItem.f) (X_spec_ReplaceItem : type_of% @spec_ReplaceItem.f) (X_spec_UndoEdit : type_of% @spec_UndoEdit.f) (X_spec_RedoEdit : type_of% @spec_RedoEdit.f) (X_spec_l1Cur_deskEdit : type_of% @spec_l1Cur_deskEdit.f) (X_l0 : type_of% @spec_l1Cur_desk.l0) (X_j2 : type_of% @spec_l1Cur_desk.j2) (k : Nat) : List (Refl.Ent G) := [⟨106, [(.wr 1000000 82 gL4)], .one (.c (.row 9 false)), fun x => X_spec_l1Cur_items k x.1 x.2.1 x.2.2⟩, ⟨105, [(.c (.row 9 false))], .tup [(.agg gL3), (.c .bool)], fun x => X_spec_StartDesk k x⟩, ⟨107, [(.wr 1000000 82 gL4), (.c li)], .one (.c li), fun x => X_spec_l1Cur_pick x.1 x.2.1 x.2.2.1 x.2.2.2⟩, ⟨108, [(.wr 1000000 82 gL4), (.c li)], .one (.c .bool), fun x => X_spec_l1Cur_one x.1 x.2.1 x.2.2.1 x.2.2.2⟩, ⟨60, [(.agg gL1)], .one (.c (.row 9 true)), fun x => X_spec_unNow k x.1 x.2.1 x.2.2⟩, ⟨109, [(.wr 1000000 82 gL4)], .one (.c .str), fun x => X_spec_l1Cur_gloss x.1 x.2.1 x.2.2⟩, ⟨22, [(.agg gL1), (.c li), (.c .str)], .tup [(.agg gL3), (.c .bool)], fun x => X_spec_InsertItem k x.1 x.2.1 x.2.2.1 x.2.2.2.1 x.2.2.2.2⟩, ⟨110, [(.agg gL1), (.c li)], .tup [(.agg gL3), (.c .bool)], fun x => X_spec_DeleteItem k x.1 x.2.1 x.2.2.1 x.2.2.2⟩, ⟨111, [(.agg gL1), (.c li), (.c .str)], .tup [(.agg gL3), (.c .bool)], fun x => X_spec_ReplaceItem k x.1 x.2.1 x.2.2.1 x.2.2.2.1 x.2.2.2.2⟩, ⟨9, [(.agg gL1)], .tup [(.agg gL3), (.c .bool)], fun x => X_spec_UndoEdit k x.1 x.2.1 x.2.2⟩, ⟨11, [(.agg gL1)], .tup [(.agg gL3), (.c .bool)], fun x => X_spec_RedoEdit k x.1 x.2.1 x.2.2⟩, ⟨112, [(.wr 1000000 82 gL4)], .one (.agg [li, li, .str, .str]), fun x => X_spec_l1Cur_deskEdit k x.1 x.2.1 x.2.2⟩]
def spec_l1Cur_desk.P_l0 (X_spec_l1Cur_items : type_of% @spec_l1Cur_items.f) (X_spec_StartDesk : type_of% @spec_StartDesk.f) (X_spec_l1Cur_pick : type_of% @spec_l1Cur_pick.f) (X_spec_l1Cur_one : type_of% @spec_l1Cur_one.f) (X_spec_unNow : type_of% @spec_unNow.f) (X_spec_l1Cur_gloss : type_of% @spec_l1Cur_gloss.f) (X_spec_InsertItem : type_of% @spec_InsertItem.f) (X_spec_DeleteItem : type_of% @spec_DeleteItem.f) (X_spec_ReplaceItem : type_of% @spec_ReplaceItem.f) (X_spec_UndoEdit : type_of% @spec_UndoEdit.f) (X_spec_RedoEdit : type_of% @spec_RedoEdit.f) (X_spec_l1Cur_deskEdit : type_of% @spec_l1Cur_deskEdit.f) (X_l0 : type_of% @spec_l1Cur_desk.l0) (X_j2 : type_of% @spec_l1Cur_desk.j2) : Refl.Pn G (Refl.PT G (spec_l1Cur_desk.e 0).ol) := ⟨true, 0, ⟨[(5, .v (.c li)), (0, .box 1000000 0), (3, .box 3 0), (2, .box 2 0)], [(1000000, 82, gL5), (3, 27, gL8), (2, 27, gL6)]⟩, fun k x => X_l0 k x.1 x.2.1 x.2.2.1 x.2.2.2.1 x.2.2.2.2.1 x.2.2.2.2.2.1 x.2.2.2.2.2.2⟩
def spec_l1Cur_desk.P_j2 (X_spec_l1Cur_items : type_of% @spec_l1Cur_items.f) (X_spec_StartDesk : type_of% @spec_StartDesk.f) (X_spec_l1Cur_pick : type_of% @spec_l1Cur_pick.f) (X_spec_l1Cur_one : type_of% @spec_l1Cur_one.f) (X_spec_unNow : type_of% @spec_unNow.f) (X_spec_l1Cur_gloss : type_of% @spec_l1Cur_gloss.f) (X_spec_InsertItem : type_of% @spec_InsertItem.f) (X_spec_DeleteItem : type_of% @spec_DeleteItem.f) (X_spec_ReplaceItem : type_of% @spec_ReplaceItem.f) (X_spec_UndoEdit : type_of% @spec_UndoEdit.f) (X_spec_RedoEdit : type_of% @spec_RedoEdit.f) (X_spec_l1Cur_deskEdit : type_of% @spec_l1Cur_deskEdit.f) (X_l0 : type_of% @spec_l1Cur_desk.l0) (X_j2 : type_of% @spec_l1Cur_desk.j2) : Refl.Pn G (Refl.PT G (spec_l1Cur_desk.e 0).ol) := ⟨false, 1000022, ⟨[(5, .v (.c li)), (8, .k (Value.bool false)), (78, .v (.c .bool)), (0, .box 1000000 0), (3, .box 3 0), (7, .box 7 0), (2, .box 2 0)], [(1000000, 82, gL5), (3, 27, gL8), (7, 27, gL2), (2, 27, gL6)]⟩, fun k x => X_j2 k x.1 false x.2.1 x.2.2.1 x.2.2.2.1 x.2.2.2.2.1 x.2.2.2.2.2.1 x.2.2.2.2.2.2.1 x.2.2.2.2.2.2.2.1 x.2.2.2.2.2.2.2.2.1 x.2.2.2.2.2.2.2.2.2.1 x.2.2.2.2.2.2.2.2.2.2⟩
def spec_l1Cur_desk.B_l0 (X_spec_l1Cur_items : type_of% @spec_l1Cur_items.f) (X_spec_StartDesk : type_of% @spec_StartDesk.f) (X_spec_l1Cur_pick : type_of% @spec_l1Cur_pick.f) (X_spec_l1Cur_one : type_of% @spec_l1Cur_one.f) (X_spec_unNow : type_of% @spec_unNow.f) (X_spec_l1Cur_gloss : type_of% @spec_l1Cur_gloss.f) (X_spec_InsertItem : type_of% @spec_InsertItem.f) (X_spec_DeleteItem : type_of% @spec_DeleteItem.f) (X_spec_ReplaceItem : type_of% @spec_ReplaceItem.f) (X_spec_UndoEdit : type_of% @spec_UndoEdit.f) (X_spec_RedoEdit : type_of% @spec_RedoEdit.f) (X_spec_l1Cur_deskEdit : type_of% @spec_l1Cur_deskEdit.f) (X_l0 : type_of% @spec_l1Cur_desk.l0) (X_j2 : type_of% @spec_l1Cur_desk.j2) (k : Nat) (x5 : Int) (x1000 : List Int) (x1001 : Int) (x1002 : Int) (x478000 : List ByteArray) (x478001 : List (S38)) (x478002 : List (S38)) : Option (List ByteArray × (List (S38)) × (List (S38)) × List Int × Int × Int) := if x5 > 0 then ((X_spec_unNow k x478000 x478001 x478002).bind fun t489 => ((X_spec_l1Cur_pick x1000 x1001 x1002 (wrap64 ((t489.length : Int) + 1))).bind fun bt492 => ((X_spec_l1Cur_pick bt492.2.1 bt492.2.2.1 bt492.2.2.2 7).bind fun bt497 => (if bt497.1 = 0 then ((X_spec_l1Cur_gloss bt497.2.1 bt497.2.2.1 bt497.2.2.2).bind fun bt501 => ((X_spec_InsertItem k x478000 x478001 x478002 bt492.1 bt501.1).bind fun bt505 => (if bt505.2.2.2 = true then (X_l0 k (wrap64 (x5 - 1)) bt501.2.1 bt501.2.2.1 bt501.2.2.2 bt505.1 bt505.2.1 bt505.2.2.1) else (X_l0 k (wrap64 (x5 - 1)) bt501.2.1 bt501.2.2.1 bt501.2.2.2 x478000 x478001 x478002)))) else (if bt497.1 = 1 then ((X_spec_l1Cur_gloss bt497.2.1 bt497.2.2.1 bt497.2.2.2).bind fun bt515 => ((X_spec_InsertItem k x478000 x478001 x478002 bt492.1 bt515.1).bind fun bt519 => (if bt519.2.2.2 = true then (X_l0 k (wrap64 (x5 - 1)) bt515.2.1 bt515.2.2.1 bt515.2.2.2 bt519.1 bt519.2.1 bt519.2.2.1) else (X_l0 k (wrap64 (x5 - 1)) bt515.2.1 bt515.2.2.1 bt515.2.2.2 x478000 x478001 x478002)))) else (if bt497.1 = 2 then ((X_spec_DeleteItem k x478000 x478001 x478002 bt492.1).bind fun bt529 => (if bt529.2.2.2 = true then (X_l0 k (wrap64 (x5 - 1)) bt497.2.1 bt497.2.2.1 bt497.2.2.2 bt529.1 bt529.2.1 bt529.2.2.1) else (X_l0 k (wrap64 (x5 - 1)) bt497.2.1 bt497.2.2.1 bt497.2.2.2 x478000 x478001 x478002))) else (if bt497.1 = 3 then ((X_spec_l1Cur_gloss bt497.2.1 bt497.2.2.1 bt497.2.2.2).bind fun bt539 => ((X_spec_ReplaceItem k x478000 x478001 x478002 bt492.1 bt539.1).bind fun bt543 => (if bt543.2.2.2 = true then (X_l0 k (wrap64 (x5 - 1)) bt539.2.1 bt539.2.2.1 bt539.2.2.2 bt543.1 bt543.2.1 bt543.2.2.1) else (X_l0 k (wrap64 (x5 - 1)) bt539.2.1 bt539.2.2.1 bt539.2.2.2 x478000 x478001 x478002)))) else (if bt497.1 = 4 then (if x5 < 20 then (X_j2 k x5 false true bt497.2.1 bt497.2.2.1 bt497.2.2.2 x478000 x478001 x478002 x478000 x478001 x478002) else ((X_spec_l1Cur_one bt497.2.1 bt497.2.2.1 bt497.2.2.2 8).bind fun bt553 => (X_j2 k x5 false bt553.1 bt553.2.1 bt553.2.2.1 bt553.2.2.2 x478000 x478001 x478002 x478000 x478001 x478002))) else (if bt497.1 = 5 then (if x5 < 20 then (X_j2 k x5 false true bt497.2.1 bt497.2.2.1 bt497.2.2.2 x478000 x478001 x478002 x478000 x478001 x478002) else ((X_spec_l1Cur_one bt497.2.1 bt497.2.2.1 bt497.2.2.2 8).bind fun bt567 => (X_j2 k x5 false bt567.1 bt567.2.1 bt567.2.2.1 bt567.2.2.2 x478000 x478001 x478002 x478000 x478001 x478002))) else ((X_spec_RedoEdit k x478000 x478001 x478002).bind fun bt581 => (if bt581.2.2.2 = true then (X_l0 k (wrap64 (x5 - 1)) bt497.2.1 bt497.2.2.1 bt497.2.2.2 bt581.1 bt581.2.1 bt581.2.2.1) else (X_l0 k (wrap64 (x5 - 1)) bt497.2.1 bt497.2.2.1 bt497.2.2.2 x478000 x478001 x478002)))))))))))) else ((X_spec_l1Cur_pick x1000 x1001 x1002 24).bind fun bt591 => (if bt591.1 = 0 then ((X_spec_l1Cur_deskEdit k bt591.2.1 bt591.2.2.1 bt591.2.2.2).bind fun bt595 => (if x478001.length < 2932031007402 then (some (x478000, (x478001 ++ [(⟨bt595.1, bt595.2.1, bt595.2.2.1, bt595.2.2.2.1⟩ : S38)]), x478002, bt595.2.2.2.2.1, bt595.2.2.2.2.2.1, bt595.2.2.2.2.2.2)) else (none))) else (if bt591.1 = 1 then ((X_spec_l1Cur_deskEdit k bt591.2.1 bt591.2.2.1 bt591.2.2.2).bind fun bt605 => (if x478002.length < 2932031007402 then (some (x478000, x478001, (x478002 ++ [(⟨bt605.1, bt605.2.1, bt605.2.2.1, bt605.2.2.2.1⟩ : S38)]), bt605.2.2.2.2.1, bt605.2.2.2.2.2.1, bt605.2.2.2.2.2.2)) else (none))) else (if bt591.1 = 2 then ((X_spec_l1Cur_items k bt591.2.1 bt591.2.2.1 bt591.2.2.2).bind fun bt615 => (some (bt615.1, x478001, x478002, bt615.2.1, bt615.2.2.1, bt615.2.2.2))) else (some (x478000, x478001, x478002, bt591.2.1, bt591.2.2.1, bt591.2.2.2))))))
theorem spec_l1Cur_desk.T_l0 (X_spec_l1Cur_items : type_of% @spec_l1Cur_items.f) (X_spec_StartDesk : type_of% @spec_StartDesk.f) (X_spec_l1Cur_pick : type_of% @spec_l1Cur_pick.f) (X_spec_l1Cur_one : type_of% @spec_l1Cur_one.f) (X_spec_unNow : type_of% @spec_unNow.f) (X_spec_l1Cur_gloss : type_of% @spec_l1Cur_gloss.f) (X_spec_InsertItem : type_of% @spec_InsertItem.f) (X_spec_DeleteItem : type_of% @spec_DeleteItem.f) (X_spec_ReplaceItem : type_of% @spec_ReplaceItem.f) (X_spec_UndoEdit : type_of% @spec_UndoEdit.f) (X_spec_RedoEdit : type_of% @spec_RedoEdit.f) (X_spec_l1Cur_deskEdit : type_of% @spec_l1Cur_deskEdit.f) (X_l0 : type_of% @spec_l1Cur_desk.l0) (X_j2 : type_of% @spec_l1Cur_desk.j2) (k : Nat) (x) : spec_l1Cur_desk.B_l0 X_spec_l1Cur_items X_spec_StartDesk X_spec_l1Cur_pick X_spec_l1Cur_one X_spec_unNow X_spec_l1Cur_gloss X_spec_InsertItem X_spec_DeleteItem X_spec_ReplaceItem X_spec_UndoEdit X_spec_RedoEdit X_spec_l1Cur_deskEdit X_l0 X_j2 k x.1 x.2.1 x.2.2.1 x.2.2.2.1 x.2.2.2.2.1 x.2.2.2.2.2.1 x.2.2.2.2.2.2 = Refl.goAt (Refl.stepsOf Try.f68 (spec_l1Cur_desk.E_ X_spec_l1Cur_items X_spec_StartDesk X_spec_l1Cur_pick X_spec_l1Cur_one X_spec_unNow X_spec_l1Cur_gloss X_spec_InsertItem X_spec_DeleteItem X_spec_ReplaceItem X_spec_UndoEdit X_spec_RedoEdit X_spec_l1Cur_deskEdit X_l0 X_j2) (spec_l1Cur_desk.e 0).args (spec_l1Cur_desk.e 0).res [spec_l1Cur_desk.P_l0 X_spec_l1Cur_items X_spec_StartDesk X_spec_l1Cur_pick X_spec_l1Cur_one X_spec_unNow X_spec_l1Cur_gloss X_spec_InsertItem X_spec_DeleteItem X_spec_ReplaceItem X_spec_UndoEdit X_spec_RedoEdit X_spec_l1Cur_deskEdit X_l0 X_j2, spec_l1Cur_desk.P_j2 X_spec_l1Cur_items X_spec_StartDesk X_spec_l1Cur_pick X_spec_l1Cur_one X_spec_unNow X_spec_l1Cur_gloss X_spec_InsertItem X_spec_DeleteItem X_spec_ReplaceItem X_spec_UndoEdit X_spec_RedoEdit X_spec_l1Cur_deskEdit X_l0 X_j2]) 0 k (Refl.encSt 1000000 (spec_l1Cur_desk.P_l0 X_spec_l1Cur_items X_spec_StartDesk X_spec_l1Cur_pick X_spec_l1Cur_one X_spec_unNow X_spec_l1Cur_gloss X_spec_InsertItem X_spec_DeleteItem X_spec_ReplaceItem X_spec_UndoEdit X_spec_RedoEdit X_spec_l1Cur_deskEdit X_l0 X_j2).sh x) := by kernel_rfl
def spec_l1Cur_desk.B_j2 (X_spec_l1Cur_items : type_of% @spec_l1Cur_items.f) (X_spec_StartDesk : type_of% @spec_StartDesk.f) (X_spec_l1Cur_pick : type_of% @spec_l1Cur_pick.f) (X_spec_l1Cur_one : type_of% @spec_l1Cur_one.f) (X_spec_unNow : type_of% @spec_unNow.f) (X_spec_l1Cur_gloss : type_of% @spec_l1Cur_gloss.f) (X_spec_InsertItem : type_of% @spec_InsertItem.f) (X_spec_DeleteItem : type_of% @spec_DeleteItem.f) (X_spec_ReplaceItem : type_of% @spec_ReplaceItem.f) (X_spec_UndoEdit : type_of% @spec_UndoEdit.f) (X_spec_RedoEdit : type_of% @spec_RedoEdit.f) (X_spec_l1Cur_deskEdit : type_of% @spec_l1Cur_deskEdit.f) (X_l0 : type_of% @spec_l1Cur_desk.l0) (X_j2 : type_of% @spec_l1Cur_desk.j2) (k : Nat) (x5 : Int) (x8 : Bool) (x78 : Bool) (x1000 : List Int) (x1001 : Int) (x1002 : Int) (x478000 : List ByteArray) (x478001 : List (S38)) (x478002 : List (S38)) (x497000 : List ByteArray) (x497001 : List (S38)) (x497002 : List (S38)) : Option (List ByteArray × (List (S38)) × (List (S38)) × List Int × Int × Int) := if x78 = true then ((X_spec_UndoEdit k x478000 x478001 x478002).bind fun bt557 => (if bt557.2.2.2 = true then (X_l0 k (wrap64 (x5 - 1)) x1000 x1001 x1002 bt557.1 bt557.2.1 bt557.2.2.1) else (X_l0 k (wrap64 (x5 - 1)) x1000 x1001 x1002 x478000 x478001 x478002))) else (if x8 = true then (X_l0 k (wrap64 (x5 - 1)) x1000 x1001 x1002 x497000 x497001 x497002) else (X_l0 k (wrap64 (x5 - 1)) x1000 x1001 x1002 x478000 x478001 x478002))
theorem spec_l1Cur_desk.T_j2 (X_spec_l1Cur_items : type_of% @spec_l1Cur_items.f) (X_spec_StartDesk : type_of% @spec_StartDesk.f) (X_spec_l1Cur_pick : type_of% @spec_l1Cur_pick.f) (X_spec_l1Cur_one : type_of% @spec_l1Cur_one.f) (X_spec_unNow : type_of% @spec_unNow.f) (X_spec_l1Cur_gloss : type_of% @spec_l1Cur_gloss.f) (X_spec_InsertItem : type_of% @spec_InsertItem.f) (X_spec_DeleteItem : type_of% @spec_DeleteItem.f) (X_spec_ReplaceItem : type_of% @spec_ReplaceItem.f) (X_spec_UndoEdit : type_of% @spec_UndoEdit.f) (X_spec_RedoEdit : type_of% @spec_RedoEdit.f) (X_spec_l1Cur_deskEdit : type_of% @spec_l1Cur_deskEdit.f) (X_l0 : type_of% @spec_l1Cur_desk.l0) (X_j2 : type_of% @spec_l1Cur_desk.j2) (k : Nat) (x) : spec_l1Cur_desk.B_j2 X_spec_l1Cur_items X_spec_StartDesk X_spec_l1Cur_pick X_spec_l1Cur_one X_spec_unNow X_spec_l1Cur_gloss X_spec_InsertItem X_spec_DeleteItem X_spec_ReplaceItem X_spec_UndoEdit X_spec_RedoEdit X_spec_l1Cur_deskEdit X_l0 X_j2 k x.1 false x.2.1 x.2.2.1 x.2.2.2.1 x.2.2.2.2.1 x.2.2.2.2.2.1 x.2.2.2.2.2.2.1 x.2.2.2.2.2.2.2.1 x.2.2.2.2.2.2.2.2.1 x.2.2.2.2.2.2.2.2.2.1 x.2.2.2.2.2.2.2.2.2.2 = Refl.goAt (Refl.stepsOf Try.f68 (spec_l1Cur_desk.E_ X_spec_l1Cur_items X_spec_StartDesk X_spec_l1Cur_pick X_spec_l1Cur_one X_spec_unNow X_spec_l1Cur_gloss X_spec_InsertItem X_spec_DeleteItem X_spec_ReplaceItem X_spec_UndoEdit X_spec_RedoEdit X_spec_l1Cur_deskEdit X_l0 X_j2) (spec_l1Cur_desk.e 0).args (spec_l1Cur_desk.e 0).res [spec_l1Cur_desk.P_l0 X_spec_l1Cur_items X_spec_StartDesk X_spec_l1Cur_pick X_spec_l1Cur_one X_spec_unNow X_spec_l1Cur_gloss X_spec_InsertItem X_spec_DeleteItem X_spec_ReplaceItem X_spec_UndoEdit X_spec_RedoEdit X_spec_l1Cur_deskEdit X_l0 X_j2, spec_l1Cur_desk.P_j2 X_spec_l1Cur_items X_spec_StartDesk X_spec_l1Cur_pick X_spec_l1Cur_one X_spec_unNow X_spec_l1Cur_gloss X_spec_InsertItem X_spec_DeleteItem X_spec_ReplaceItem X_spec_UndoEdit X_spec_RedoEdit X_spec_l1Cur_deskEdit X_l0 X_j2]) 1 k (Refl.encSt 1000000 (spec_l1Cur_desk.P_j2 X_spec_l1Cur_items X_spec_StartDesk X_spec_l1Cur_pick X_spec_l1Cur_one X_spec_unNow X_spec_l1Cur_gloss X_spec_InsertItem X_spec_DeleteItem X_spec_ReplaceItem X_spec_UndoEdit X_spec_RedoEdit X_spec_l1Cur_deskEdit X_l0 X_j2).sh x) := by kernel_rfl
def spec_l1Cur_desk.B_f (X_spec_l1Cur_items : type_of% @spec_l1Cur_items.f) (X_spec_StartDesk : type_of% @spec_StartDesk.f) (X_spec_l1Cur_pick : type_of% @spec_l1Cur_pick.f) (X_spec_l1Cur_one : type_of% @spec_l1Cur_one.f) (X_spec_unNow : type_of% @spec_unNow.f) (X_spec_l1Cur_gloss : type_of% @spec_l1Cur_gloss.f) (X_spec_InsertItem : type_of% @spec_InsertItem.f) (X_spec_DeleteItem : type_of% @spec_DeleteItem.f) (X_spec_ReplaceItem : type_of% @spec_ReplaceItem.f) (X_spec_UndoEdit : type_of% @spec_UndoEdit.f) (X_spec_RedoEdit : type_of% @spec_RedoEdit.f) (X_spec_l1Cur_deskEdit : type_of% @spec_l1Cur_deskEdit.f) (X_l0 : type_of% @spec_l1Cur_desk.l0) (X_j2 : type_of% @spec_l1Cur_desk.j2) (k : Nat) (s0_0 : List Int) (s0_1 : Int) (s0_2 : Int) : Option (List ByteArray × (List (S38)) × (List (S38)) × List Int × Int × Int) := (X_spec_l1Cur_items k s0_0 s0_1 s0_2).bind fun bt461 => ((X_spec_StartDesk k bt461.1).bind fun bt467 => (if bt467.2.2.2 = true then ((X_spec_l1Cur_pick bt461.2.1 bt461.2.2.1 bt461.2.2.2 10).bind fun bt481 => ((X_spec_l1Cur_one bt481.2.1 bt481.2.2.1 bt481.2.2.2 12).bind fun bt485 => (if bt485.1 = true then (X_l0 k 60 bt485.2.1 bt485.2.2.1 bt485.2.2.2 bt467.1 bt467.2.1 bt467.2.2.1) else (X_l0 k bt481.1 bt485.2.1 bt485.2.2.1 bt485.2.2.2 bt467.1 bt467.2.1 bt467.2.2.1)))) else (some ((([(⟨#[115, 117, 110]⟩ : ByteArray)] : List ByteArray)), ([] : List (S38)), ([] : List (S38)), bt461.2.1, bt461.2.2.1, bt461.2.2.2))))
theorem spec_l1Cur_desk.T_f (X_spec_l1Cur_items : type_of% @spec_l1Cur_items.f) (X_spec_StartDesk : type_of% @spec_StartDesk.f) (X_spec_l1Cur_pick : type_of% @spec_l1Cur_pick.f) (X_spec_l1Cur_one : type_of% @spec_l1Cur_one.f) (X_spec_unNow : type_of% @spec_unNow.f) (X_spec_l1Cur_gloss : type_of% @spec_l1Cur_gloss.f) (X_spec_InsertItem : type_of% @spec_InsertItem.f) (X_spec_DeleteItem : type_of% @spec_DeleteItem.f) (X_spec_ReplaceItem : type_of% @spec_ReplaceItem.f) (X_spec_UndoEdit : type_of% @spec_UndoEdit.f) (X_spec_RedoEdit : type_of% @spec_RedoEdit.f) (X_spec_l1Cur_deskEdit : type_of% @spec_l1Cur_deskEdit.f) (X_l0 : type_of% @spec_l1Cur_desk.l0) (X_j2 : type_of% @spec_l1Cur_desk.j2) (k : Nat) (x) : spec_l1Cur_desk.B_f X_spec_l1Cur_items X_spec_StartDesk X_spec_l1Cur_pick X_spec_l1Cur_one X_spec_unNow X_spec_l1Cur_gloss X_spec_InsertItem X_spec_DeleteItem X_spec_ReplaceItem X_spec_UndoEdit X_spec_RedoEdit X_spec_l1Cur_deskEdit X_l0 X_j2 k x.1 x.2.1 x.2.2 = Refl.run Try.f68 (spec_l1Cur_desk.E_ X_spec_l1Cur_items X_spec_StartDesk X_spec_l1Cur_pick X_spec_l1Cur_one X_spec_unNow X_spec_l1Cur_gloss X_spec_InsertItem X_spec_DeleteItem X_spec_ReplaceItem X_spec_UndoEdit X_spec_RedoEdit X_spec_l1Cur_deskEdit X_l0 X_j2) (spec_l1Cur_desk.e k).args (spec_l1Cur_desk.e k).res [spec_l1Cur_desk.P_l0 X_spec_l1Cur_items X_spec_StartDesk X_spec_l1Cur_pick X_spec_l1Cur_one X_spec_unNow X_spec_l1Cur_gloss X_spec_InsertItem X_spec_DeleteItem X_spec_ReplaceItem X_spec_UndoEdit X_spec_RedoEdit X_spec_l1Cur_deskEdit X_l0 X_j2, spec_l1Cur_desk.P_j2 X_spec_l1Cur_items X_spec_StartDesk X_spec_l1Cur_pick X_spec_l1Cur_one X_spec_unNow X_spec_l1Cur_gloss X_spec_InsertItem X_spec_DeleteItem X_spec_ReplaceItem X_spec_UndoEdit X_spec_RedoEdit X_spec_l1Cur_deskEdit X_l0 X_j2] k x := by kernel_rfl
theorem spec_l1Cur_desk.ok (k : Nat) : Refl.EntOK Try.prog (spec_l1Cur_desk.e k) := Refl.ent_ok 1000000 k GC (fun k => [spec_l1Cur_items.e k, spec_StartDesk.e k, spec_l1Cur_pick.e k, spec_l1Cur_one.e k, spec_unNow.e k, spec_l1Cur_gloss.e k, spec_InsertItem.e k, spec_DeleteItem.e k, spec_ReplaceItem.e k, spec_UndoEdit.e k, spec_RedoEdit.e k, spec_l1Cur_deskEdit.e k]) (fun k => ⟨spec_l1Cur_items.ok k, spec_StartDesk.ok k, spec_l1Cur_pick.ok k, spec_l1Cur_one.ok k, spec_unNow.ok k, spec_l1Cur_gloss.ok k, spec_InsertItem.ok k, spec_DeleteItem.ok k, spec_ReplaceItem.ok k, spec_UndoEdit.ok k, spec_RedoEdit.ok k, spec_l1Cur_deskEdit.ok k, trivial⟩) Try.func68 (by kernel_rfl) [spec_l1Cur_desk.pl0, spec_l1Cur_desk.pj2] (ps := [spec_l1Cur_desk.pl0, spec_l1Cur_desk.pj2]) (by kernel_rfl) ⟨⟨fun x => by kernel_rfl, fun k x => Eq.trans (by kernel_rfl) (Eq.trans (spec_l1Cur_desk.T_l0 spec_l1Cur_items.f spec_StartDesk.f spec_l1Cur_pick.f spec_l1Cur_one.f spec_unNow.f spec_l1Cur_gloss.f spec_InsertItem.f spec_DeleteItem.f spec_ReplaceItem.f spec_UndoEdit.f spec_RedoEdit.f spec_l1Cur_deskEdit.f spec_l1Cur_desk.l0 spec_l1Cur_desk.j2 k x) (by kernel_rfl))⟩, ⟨fun x => by kernel_rfl, fun k x => Eq.trans (by kernel_rfl) (Eq.trans (spec_l1Cur_desk.T_j2 spec_l1Cur_items.f spec_StartDesk.f spec_l1Cur_pick.f spec_l1Cur_one.f spec_unNow.f spec_l1Cur_gloss.f spec_InsertItem.f spec_DeleteItem.f spec_ReplaceItem.f spec_UndoEdit.f spec_RedoEdit.f spec_l1Cur_deskEdit.f spec_l1Cur_desk.l0 spec_l1Cur_desk.j2 k x) (by kernel_rfl))⟩, trivial⟩ (fun x => Eq.trans (by kernel_rfl) (Eq.trans (spec_l1Cur_desk.T_f spec_l1Cur_items.f spec_StartDesk.f spec_l1Cur_pick.f spec_l1Cur_one.f spec_unNow.f spec_l1Cur_gloss.f spec_InsertItem.f spec_DeleteItem.f spec_ReplaceItem.f spec_UndoEdit.f spec_RedoEdit.f spec_l1Cur_deskEdit.f spec_l1Cur_desk.l0 spec_l1Cur_desk.j2 k x) (by kernel_rfl)))

end Go.Proofs.Ytgpkeclojbcgoaa.PA
