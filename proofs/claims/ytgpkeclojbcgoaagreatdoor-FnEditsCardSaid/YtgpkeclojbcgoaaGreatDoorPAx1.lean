-- Written by a program of this session (wip/tools/myprint.py). Not trusted: Lean checks it.
import Derived.Test.YtgpkeclojbcgoaaGreatDoorCtx
namespace Go.Proofs.YtgpkeclojbcgoaaGreatDoor.PA
open Go.RowKit Go.Proofs.YtgpkeclojbcgoaaGreatDoorW.PrintWords Go.Proofs.YtgpkeclojbcgoaaGreatDoorW.PrintLast Go.Proofs.YtgpkeclojbcgoaaGreatDoorW.PrintMore
attribute [local go_sem] max2_int min2_int max_two min_two max_three min_three max_four min_four   -- for this text's walks alone
set_option linter.unusedVariables false
set_option linter.unusedSimpArgs false

/-! ### laws_big: function 5 -/

def laws_big.f (l0 : List Int) (l1 : List Int) : Option (Bool) := if (l0.length : Int) > 1048576 then (some true) else (some (decide ((l1.length : Int) > (wrap64 (1048576 - (l0.length : Int))))))

def laws_big.e (k : Nat) : Refl.Ent G := ⟨5, [(.c (.row 5 false)), (.c (.row 5 false))], .one (.c .bool), fun x => laws_big.f x.1 x.2⟩
theorem laws_big.ok (k : Nat) : Refl.EntOK Tryz.prog (laws_big.e k) := Refl.ent_ok 1000000 k GC (fun k => []) (fun k => trivial) Tryz.func5 (by kernel_rfl) [] (ps := []) (by kernel_rfl) trivial (fun x => by kernel_rfl)

/-! ### spec_l1Cur_next: function 107 -/

def spec_l1Cur_next.f (s0_0 : List Int) (s0_1 : Int) (s0_2 : Int) : Option (Int × List Int × Int × Int) := if s0_1 < (s0_0.length : Int) then (if 0 ≤ s0_1 then (if s0_1 < (s0_0.length : Int) then (if (wrap64 (s0_1 + 1)) ≤ (s0_0.length : Int) then (some (wrap64 (rd s0_0 s0_1), s0_0, wrap64 (s0_1 + 1), IntKind.u64.wrap ((IntKind.u64.wrap ((IntKind.u64.wrap (s0_2 * 6364136223846793005)) + (IntKind.u64.wrap (wrap64 (rd s0_0 s0_1))))) + 1442695040888963407))) else (some (wrap64 (Go.bits .and .u64 ((IntKind.u64.wrap ((IntKind.u64.wrap ((IntKind.u64.wrap (s0_2 * 6364136223846793005)) + (IntKind.u64.wrap (wrap64 (rd s0_0 s0_1))))) + 1442695040888963407)) / 1099511627776) 255), s0_0, wrap64 (s0_1 + 1), IntKind.u64.wrap ((IntKind.u64.wrap ((IntKind.u64.wrap (s0_2 * 6364136223846793005)) + (IntKind.u64.wrap (wrap64 (rd s0_0 s0_1))))) + 1442695040888963407)))) else (none)) else (none)) else (if (wrap64 (s0_1 + 1)) ≤ (s0_0.length : Int) then (some (0, s0_0, wrap64 (s0_1 + 1), IntKind.u64.wrap ((IntKind.u64.wrap ((IntKind.u64.wrap (s0_2 * 6364136223846793005)) + (IntKind.u64.wrap (0)))) + 1442695040888963407))) else (some (wrap64 (Go.bits .and .u64 ((IntKind.u64.wrap ((IntKind.u64.wrap ((IntKind.u64.wrap (s0_2 * 6364136223846793005)) + (IntKind.u64.wrap (0)))) + 1442695040888963407)) / 1099511627776) 255), s0_0, wrap64 (s0_1 + 1), IntKind.u64.wrap ((IntKind.u64.wrap ((IntKind.u64.wrap (s0_2 * 6364136223846793005)) + (IntKind.u64.wrap (0)))) + 1442695040888963407))))

def spec_l1Cur_next.e (k : Nat) : Refl.Ent G := ⟨107, [(.wr 1000000 66 gL0)], .one (.c li), fun x => spec_l1Cur_next.f x.1 x.2.1 x.2.2⟩
theorem spec_l1Cur_next.ok (k : Nat) : Refl.EntOK Tryz.prog (spec_l1Cur_next.e k) := Refl.ent_ok 1000000 k GC (fun k => []) (fun k => trivial) Tryz.func107 (by kernel_rfl) [] (ps := []) (by kernel_rfl) trivial (fun x => by kernel_rfl)

/-! ### spec_l1Cur_pick: function 67 -/

def spec_l1Cur_pick.f (s0_0 : List Int) (s0_1 : Int) (s0_2 : Int) (a1 : Int) : Option (Int × List Int × Int × Int) := if a1 ≤ 1 then (some (0, s0_0, s0_1, s0_2)) else ((spec_l1Cur_next.f s0_0 s0_1 s0_2).bind fun bt102 => (if a1 > 200 then ((spec_l1Cur_next.f bt102.2.1 bt102.2.2.1 bt102.2.2.2).bind fun bt106 => (if a1 = 0 then (none) else (some (Int.tmod (wrap64 ((wrap64 (bt102.1 * 256)) + bt106.1)) a1, bt106.2.1, bt106.2.2.1, bt106.2.2.2)))) else (if a1 = 0 then (none) else (some (Int.tmod bt102.1 a1, bt102.2.1, bt102.2.2.1, bt102.2.2.2)))))

def spec_l1Cur_pick.e (k : Nat) : Refl.Ent G := ⟨67, [(.wr 1000000 66 gL0), (.c li)], .one (.c li), fun x => spec_l1Cur_pick.f x.1 x.2.1 x.2.2.1 x.2.2.2⟩
theorem spec_l1Cur_pick.ok (k : Nat) : Refl.EntOK Tryz.prog (spec_l1Cur_pick.e k) := Refl.ent_ok 1000000 k GC (fun k => [spec_l1Cur_next.e k]) (fun k => ⟨spec_l1Cur_next.ok k, trivial⟩) Tryz.func67 (by kernel_rfl) [] (ps := []) (by kernel_rfl) trivial (fun x => by kernel_rfl)

/-! ### spec_l1Cur_among: function 66 -/

def spec_l1Cur_among.f (s0_0 : List Int) (s0_1 : Int) (s0_2 : Int) (l1 : List Int) : Option (Int × List Int × Int × Int) := (spec_l1Cur_pick.f s0_0 s0_1 s0_2 (l1.length : Int)).bind fun bt110 => (if 0 ≤ bt110.1 then (if bt110.1 < (l1.length : Int) then (some (rd l1 bt110.1, bt110.2.1, bt110.2.2.1, bt110.2.2.2)) else (none)) else (none))

def spec_l1Cur_among.e (k : Nat) : Refl.Ent G := ⟨66, [(.wr 1000000 66 gL0), (.c (.row 3 false))], .one (.c li), fun x => spec_l1Cur_among.f x.1 x.2.1 x.2.2.1 x.2.2.2⟩
theorem spec_l1Cur_among.ok (k : Nat) : Refl.EntOK Tryz.prog (spec_l1Cur_among.e k) := Refl.ent_ok 1000000 k GC (fun k => [spec_l1Cur_pick.e k]) (fun k => ⟨spec_l1Cur_pick.ok k, trivial⟩) Tryz.func66 (by kernel_rfl) [] (ps := []) (by kernel_rfl) trivial (fun x => by kernel_rfl)

/-! ### spec_l1Cur_of: function 87 -/

def spec_l1Cur_of.f (s0_0 : List Int) (s0_1 : Int) (s0_2 : Int) (l1 : List ByteArray) : Option (ByteArray × List Int × Int × Int) := (spec_l1Cur_pick.f s0_0 s0_1 s0_2 (l1.length : Int)).bind fun bt115 => (if 0 ≤ bt115.1 then (if bt115.1 < (l1.length : Int) then (some (rdOf ByteArray.empty l1 bt115.1, bt115.2.1, bt115.2.2.1, bt115.2.2.2)) else (none)) else (none))

def spec_l1Cur_of.e (k : Nat) : Refl.Ent G := ⟨87, [(.wr 1000000 66 gL0), (.c (.row 9 false))], .one (.c .str), fun x => spec_l1Cur_of.f x.1 x.2.1 x.2.2.1 x.2.2.2⟩
theorem spec_l1Cur_of.ok (k : Nat) : Refl.EntOK Tryz.prog (spec_l1Cur_of.e k) := Refl.ent_ok 1000000 k GC (fun k => [spec_l1Cur_pick.e k]) (fun k => ⟨spec_l1Cur_pick.ok k, trivial⟩) Tryz.func87 (by kernel_rfl) [] (ps := []) (by kernel_rfl) trivial (fun x => by kernel_rfl)

/-! ### spec_l1Cur_gloss: function 94 -/

def spec_l1Cur_gloss.f (s0_0 : List Int) (s0_1 : Int) (s0_2 : Int) : Option (ByteArray × List Int × Int × Int) := (spec_l1Cur_of.f s0_0 s0_1 s0_2 (([(⟨#[83, 85, 78]⟩ : ByteArray), (⟨#[72, 79, 85, 83, 69]⟩ : ByteArray), (⟨#[84, 82, 69, 69]⟩ : ByteArray), (⟨#[82, 65, 73, 78]⟩ : ByteArray), (⟨#[66, 79, 79, 75]⟩ : ByteArray), (⟨#[69, 73, 71, 72, 84, 76, 69, 84]⟩ : ByteArray)] : List ByteArray))).bind fun bt123 => (some (bt123.1, bt123.2.1, bt123.2.2.1, bt123.2.2.2))

def spec_l1Cur_gloss.e (k : Nat) : Refl.Ent G := ⟨94, [(.wr 1000000 66 gL0)], .one (.c .str), fun x => spec_l1Cur_gloss.f x.1 x.2.1 x.2.2⟩
theorem spec_l1Cur_gloss.ok (k : Nat) : Refl.EntOK Tryz.prog (spec_l1Cur_gloss.e k) := Refl.ent_ok 1000000 k GC (fun k => [spec_l1Cur_of.e k]) (fun k => ⟨spec_l1Cur_of.ok k, trivial⟩) Tryz.func94 (by kernel_rfl) [] (ps := []) (by kernel_rfl) trivial (fun x => by kernel_rfl)

/-! ### spec_l1Cur_anyGloss: function 95 -/

def spec_l1Cur_anyGloss.f (s0_0 : List Int) (s0_1 : Int) (s0_2 : Int) : Option (ByteArray × List Int × Int × Int) := (spec_l1Cur_of.f s0_0 s0_1 s0_2 (([(⟨#[]⟩ : ByteArray), (⟨#[115, 117, 110]⟩ : ByteArray), (⟨#[78, 73, 78, 69, 76, 69, 84, 84, 69]⟩ : ByteArray), (⟨#[65, 49]⟩ : ByteArray), (⟨#[90, 79, 79]⟩ : ByteArray), (⟨#[65]⟩ : ByteArray)] : List ByteArray))).bind fun bt130 => ((spec_l1Cur_of.f bt130.2.1 bt130.2.2.1 bt130.2.2.2 (([(⟨#[83, 85, 78]⟩ : ByteArray), (⟨#[72, 79, 85, 83, 69]⟩ : ByteArray), (⟨#[84, 82, 69, 69]⟩ : ByteArray), (⟨#[82, 65, 73, 78]⟩ : ByteArray), (⟨#[66, 79, 79, 75]⟩ : ByteArray), (⟨#[83, 85, 78]⟩ : ByteArray), bt130.1] : List ByteArray))).bind fun bt137 => (some (bt137.1, bt137.2.1, bt137.2.2.1, bt137.2.2.2)))

def spec_l1Cur_anyGloss.e (k : Nat) : Refl.Ent G := ⟨95, [(.wr 1000000 66 gL0)], .one (.c .str), fun x => spec_l1Cur_anyGloss.f x.1 x.2.1 x.2.2⟩
theorem spec_l1Cur_anyGloss.ok (k : Nat) : Refl.EntOK Tryz.prog (spec_l1Cur_anyGloss.e k) := Refl.ent_ok 1000000 k GC (fun k => [spec_l1Cur_of.e k]) (fun k => ⟨spec_l1Cur_of.ok k, trivial⟩) Tryz.func95 (by kernel_rfl) [] (ps := []) (by kernel_rfl) trivial (fun x => by kernel_rfl)

/-! ### spec_l1Cur_deskEdit: function 45 -/

mutual
def spec_l1Cur_deskEdit.j0 : Nat → List Int → Int → Int → Int → Int → ByteArray → ByteArray → Option (Int × Int × ByteArray × ByteArray × List Int × Int × Int)
  | 0, _, _, _, _, _, _, _ => none
  | k + 1, x1000, x1001, x1002, x154000, x154001, x154002, x154003 => if x154000 = 0 then (spec_l1Cur_deskEdit.j1 k x1000 x1001 x1002 x154000 x154001 x154002 x154003) else ((spec_l1Cur_gloss.f x1000 x1001 x1002).bind fun bt158 => (spec_l1Cur_deskEdit.j1 k bt158.2.1 bt158.2.2.1 bt158.2.2.2 x154000 x154001 x154002 bt158.1))
def spec_l1Cur_deskEdit.j1 : Nat → List Int → Int → Int → Int → Int → ByteArray → ByteArray → Option (Int × Int × ByteArray × ByteArray × List Int × Int × Int)
  | 0, _, _, _, _, _, _, _ => none
  | k + 1, x1000, x1001, x1002, x154000, x154001, x154002, x154003 => (spec_l1Cur_pick.f x1000 x1001 x1002 30).bind fun bt162 => (if bt162.1 = 0 then ((spec_l1Cur_among.f bt162.2.1 bt162.2.2.1 bt162.2.2.2 (([(-1), 3, 0, 1] : List Int))).bind fun bt169 => (some (bt169.1, x154001, x154002, x154003, bt169.2.1, bt169.2.2.1, bt169.2.2.2))) else (if bt162.1 = 1 then ((spec_l1Cur_among.f bt162.2.1 bt162.2.2.1 bt162.2.2.2 (([(-1), 21] : List Int))).bind fun bt176 => (some (x154000, bt176.1, x154002, x154003, bt176.2.1, bt176.2.2.1, bt176.2.2.2))) else (if bt162.1 = 2 then ((spec_l1Cur_anyGloss.f bt162.2.1 bt162.2.2.1 bt162.2.2.2).bind fun bt180 => (some (x154000, x154001, bt180.1, x154003, bt180.2.1, bt180.2.2.1, bt180.2.2.2))) else (some (x154000, x154001, x154002, x154003, bt162.2.1, bt162.2.2.1, bt162.2.2.2)))))
end

def spec_l1Cur_deskEdit.f (k : Nat) (s0_0 : List Int) (s0_1 : Int) (s0_2 : Int) : Option (Int × Int × ByteArray × ByteArray × List Int × Int × Int) := (spec_l1Cur_pick.f s0_0 s0_1 s0_2 3).bind fun bt142 => ((spec_l1Cur_among.f bt142.2.1 bt142.2.2.1 bt142.2.2.2 (([0, 1, 2, 5, 20] : List Int))).bind fun bt149 => (if bt142.1 = 1 then (spec_l1Cur_deskEdit.j0 k bt149.2.1 bt149.2.2.1 bt149.2.2.2 bt142.1 bt149.1 (⟨#[]⟩ : ByteArray) (⟨#[]⟩ : ByteArray)) else ((spec_l1Cur_gloss.f bt149.2.1 bt149.2.2.1 bt149.2.2.2).bind fun bt154 => (spec_l1Cur_deskEdit.j0 k bt154.2.1 bt154.2.2.1 bt154.2.2.2 bt142.1 bt149.1 bt154.1 (⟨#[]⟩ : ByteArray)))))

theorem spec_l1Cur_deskEdit.mono_l : ∀ k, (∀ y0 y1 y2 y3 y4 y5 y6, LeO (spec_l1Cur_deskEdit.j0 k y0 y1 y2 y3 y4 y5 y6) (spec_l1Cur_deskEdit.j0 (k + 1) y0 y1 y2 y3 y4 y5 y6)) ∧ (∀ y0 y1 y2 y3 y4 y5 y6, LeO (spec_l1Cur_deskEdit.j1 k y0 y1 y2 y3 y4 y5 y6) (spec_l1Cur_deskEdit.j1 (k + 1) y0 y1 y2 y3 y4 y5 y6))
  | 0 => ⟨fun _ _ _ _ _ _ _ r h => by simp [spec_l1Cur_deskEdit.j0] at h, fun _ _ _ _ _ _ _ r h => by simp [spec_l1Cur_deskEdit.j1] at h⟩
  | k + 1 => by
    obtain ⟨ih0, ih1⟩ := spec_l1Cur_deskEdit.mono_l k
    refine ⟨?_, ?_⟩
    · intro y0 y1 y2 y3 y4 y5 y6
      unfold spec_l1Cur_deskEdit.j0
      repeat' first
      | (with_reducible exact ih0 _ _ _ _ _ _ _)
      | (with_reducible exact ih1 _ _ _ _ _ _ _)
      | (with_reducible exact LeO.refl _)
      | (with_reducible exact LeO.none _)
      | (with_reducible refine LeO.ite ?_ ?_)
      | (with_reducible refine LeO.bind ?_ (fun _ => ?_))
      | exact ih0 _ _ _ _ _ _ _
      | exact ih1 _ _ _ _ _ _ _
      | exact LeO.none _
      | refine LeO.ite ?_ ?_
      | refine LeO.bind ?_ (fun _ => ?_)
    · intro y0 y1 y2 y3 y4 y5 y6
      unfold spec_l1Cur_deskEdit.j1
      repeat' first
      | (with_reducible exact ih0 _ _ _ _ _ _ _)
      | (with_reducible exact ih1 _ _ _ _ _ _ _)
      | (with_reducible exact LeO.refl _)
      | (with_reducible exact LeO.none _)
      | (with_reducible refine LeO.ite ?_ ?_)
      | (with_reducible refine LeO.bind ?_ (fun _ => ?_))
      | exact ih0 _ _ _ _ _ _ _
      | exact ih1 _ _ _ _ _ _ _
      | exact LeO.none _
      | refine LeO.ite ?_ ?_
      | refine LeO.bind ?_ (fun _ => ?_)

theorem spec_l1Cur_deskEdit.mono : ∀ a0 a1 a2 k, LeO (spec_l1Cur_deskEdit.f k a0 a1 a2) (spec_l1Cur_deskEdit.f (k + 1) a0 a1 a2) := by
  intro a0 a1 a2 k
  obtain ⟨ih0, ih1⟩ := spec_l1Cur_deskEdit.mono_l k
  unfold spec_l1Cur_deskEdit.f
  repeat' first
      | (with_reducible exact ih0 _ _ _ _ _ _ _)
      | (with_reducible exact ih1 _ _ _ _ _ _ _)
      | (with_reducible exact LeO.refl _)
      | (with_reducible exact LeO.none _)
      | (with_reducible refine LeO.ite ?_ ?_)
      | (with_reducible refine LeO.bind ?_ (fun _ => ?_))
      | exact ih0 _ _ _ _ _ _ _
      | exact ih1 _ _ _ _ _ _ _
      | exact LeO.none _
      | refine LeO.ite ?_ ?_
      | refine LeO.bind ?_ (fun _ => ?_)

def spec_l1Cur_deskEdit.e (k : Nat) : Refl.Ent G := ⟨45, [(.wr 1000000 66 gL0)], .one (.agg [li, li, .str, .str]), fun x => spec_l1Cur_deskEdit.f k x.1 x.2.1 x.2.2⟩
def spec_l1Cur_deskEdit.pj0 : Refl.Pn G (Refl.PT G (spec_l1Cur_deskEdit.e 0).ol) := ⟨false, 4, ⟨[(0, .box 1000000 0), (3, .box 3 0), (2, .box 2 0)], [(1000000, 66, gL1), (3, 25, gL2), (2, 25, gL3)]⟩, fun k x => spec_l1Cur_deskEdit.j0 k x.1 x.2.1 x.2.2.1 x.2.2.2.1 x.2.2.2.2.1 x.2.2.2.2.2.1 x.2.2.2.2.2.2⟩
def spec_l1Cur_deskEdit.pj1 : Refl.Pn G (Refl.PT G (spec_l1Cur_deskEdit.e 0).ol) := ⟨false, 6, ⟨[(0, .box 1000000 0), (3, .box 3 0), (2, .box 2 0)], [(1000000, 66, gL1), (3, 25, gL2), (2, 25, gL3)]⟩, fun k x => spec_l1Cur_deskEdit.j1 k x.1 x.2.1 x.2.2.1 x.2.2.2.1 x.2.2.2.2.1 x.2.2.2.2.2.1 x.2.2.2.2.2.2⟩
theorem spec_l1Cur_deskEdit.ok (k : Nat) : Refl.EntOK Tryz.prog (spec_l1Cur_deskEdit.e k) := Refl.ent_ok 1000000 k GC (fun k => [spec_l1Cur_pick.e k, spec_l1Cur_among.e k, spec_l1Cur_gloss.e k, spec_l1Cur_anyGloss.e k]) (fun k => ⟨spec_l1Cur_pick.ok k, spec_l1Cur_among.ok k, spec_l1Cur_gloss.ok k, spec_l1Cur_anyGloss.ok k, trivial⟩) Tryz.func45 (by kernel_rfl) [spec_l1Cur_deskEdit.pj0, spec_l1Cur_deskEdit.pj1] (ps := [spec_l1Cur_deskEdit.pj0, spec_l1Cur_deskEdit.pj1]) (by kernel_rfl) ⟨⟨fun x => by kernel_rfl, fun k x => by kernel_rfl⟩, ⟨fun x => by kernel_rfl, fun k x => by kernel_rfl⟩, trivial⟩ (fun x => by kernel_rfl)

/-! ### spec_DrawInverseEdit: function 6 -/

def spec_DrawInverseEdit.f (k : Nat) (l0 : List Int) : Option (Int × Int × ByteArray × ByteArray) := (spec_l1Cur_deskEdit.f k l0 0 0).bind fun bt186 => (some (bt186.1, bt186.2.1, bt186.2.2.1, bt186.2.2.2.1))

theorem spec_DrawInverseEdit.mono : ∀ a0 k, LeO (spec_DrawInverseEdit.f k a0) (spec_DrawInverseEdit.f (k + 1) a0) := by
  intro a0 k
  unfold spec_DrawInverseEdit.f
  repeat' first
      | (with_reducible exact spec_l1Cur_deskEdit.mono _ _ _ _)
      | (with_reducible exact LeO.refl _)
      | (with_reducible exact LeO.none _)
      | (with_reducible refine LeO.ite ?_ ?_)
      | (with_reducible refine LeO.bind ?_ (fun _ => ?_))
      | exact spec_l1Cur_deskEdit.mono _ _ _ _
      | exact LeO.none _
      | refine LeO.ite ?_ ?_
      | refine LeO.bind ?_ (fun _ => ?_)

def spec_DrawInverseEdit.e (k : Nat) : Refl.Ent G := ⟨6, [(.c (.row 5 false))], .one (.agg [li, li, .str, .str]), fun x => spec_DrawInverseEdit.f k x⟩
theorem spec_DrawInverseEdit.ok (k : Nat) : Refl.EntOK Tryz.prog (spec_DrawInverseEdit.e k) := Refl.ent_ok 1000000 k GC (fun k => [spec_l1Cur_deskEdit.e k]) (fun k => ⟨spec_l1Cur_deskEdit.ok k, trivial⟩) Tryz.func6 (by kernel_rfl) [] (ps := []) (by kernel_rfl) trivial (fun x => by kernel_rfl)

/-! ### impl_within: function 68 -/

-- JOINS  | BOXES 
def impl_within.f (a0 : Int) (a1 : Int) (a2 : Int) : Option (Bool) := if a0 ≥ a1 then (some (decide (a0 ≤ a2))) else (some false)
set_option maxHeartbeats 8000000 in
set_option maxRecDepth 100000 in
theorem impl_within.calls (a0 : Int) (a1 : Int) (a2 : Int) (r : Bool) (w : World) (h : impl_within.f a0 a1 a2 = some r) :
    Calls Tryz.prog 68 #[.int .i64 a0, .int .i64 a1, .int .i64 a2] w fun e w' => e = .returned (.bool r) ∧ Drawn0 w w' := by
  have H : (if a0 ≥ a1 then (some (decide (a0 ≤ a2))) else (some false)) = some r := h
  clear h
  by_cases c4 : a0 ≥ a1
  · rw [if_pos c4] at H
    have c4b0 : decide (a1 ≤ a0) = true := decide_eq_true c4
    clear c4
    obtain rfl := Option.some.inj H
    go_enter Tryz.func68, Tryz.ntmps68
    go_wp2
    go_ret
    exact ⟨by first | rfl | (simp; done) | (simp [*]; done), by repeat (first | exact Drawn0.refl _ | apply Drawn0.step)⟩
  · rw [if_neg c4] at H
    have c4b0 : decide (a1 ≤ a0) = false := decide_eq_false c4
    clear c4
    obtain rfl := Option.some.inj H
    go_enter Tryz.func68, Tryz.ntmps68
    go_wp2
    go_ret
    exact ⟨by first | rfl | (simp; done) | (simp [*]; done), by repeat (first | exact Drawn0.refl _ | apply Drawn0.step)⟩

def impl_within.e (k : Nat) : Refl.Ent G := ⟨68, [(.c li), (.c li), (.c li)], .one (.c .bool), fun x => impl_within.f x.1 x.2.1 x.2.2⟩
theorem impl_within.ok (k : Nat) : Refl.EntOK Tryz.prog (impl_within.e k) := Refl.ent_ok 1000000 k GC (fun k => []) (fun k => trivial) Tryz.func68 (by kernel_rfl) [] (ps := []) (by kernel_rfl) trivial (fun x => by kernel_rfl)

/-! ### strings_IndexByte: function 117 -/

def strings_IndexByte.f (a0 : ByteArray) (a1 : Int) : Option Int := some (Lib.indexByte a0.data.toList a1.toNat.toUInt8)
theorem strings_IndexByte.calls (a0 : ByteArray) (a1 : Int) (r : Int) (w : World) (h : strings_IndexByte.f a0 a1 = some r) :
    Calls Tryz.prog 117 #[.string a0, .int .u8 a1] w fun e w' => e = .returned (.int .i64 r) ∧ Drawn0 w w' := by
  obtain rfl := Option.some.inj h
  exact (Tryz.strings_IndexByte a0 a1 w).mono fun e w' ⟨he, hw⟩ => ⟨he, hw ▸ Drawn0.refl _⟩

def strings_IndexByte.e (k : Nat) : Refl.Ent G := ⟨117, [(.c .str), (.c (.int .u8))], .one (.c li), fun x => strings_IndexByte.f x.1 x.2⟩
theorem strings_IndexByte.ok (k : Nat) : Refl.EntOK Tryz.prog (strings_IndexByte.e k) := Refl.entOK_hand Tryz.func117 (by kernel_rfl) (fun x => by kernel_rfl) (fun y => ⟨by kernel_rfl, by kernel_rfl, by kernel_rfl, by kernel_rfl⟩) (fun x y h w => (strings_IndexByte.calls x.1 x.2 y w h).mono fun e w' hh => ⟨hh.1, hh.2.below⟩)

/-! ### impl_hasOnly: function 93 -/

def impl_hasOnly.l0 : Nat → ByteArray → ByteArray → Int → Int → Option (Bool)
  | 0, _, _, _, _ => none
  | k + 1, x0, x1, x7, x8 => if x8 < x7 then (if 0 ≤ x8 then (if x8 < (x0.size : Int) then ((strings_IndexByte.f x1 (bt x0 x8)).bind fun t193 => (if t193 < 0 then (some false) else (impl_hasOnly.l0 k x0 x1 x7 (wrap64 (x8 + 1))))) else (none)) else (none)) else (some true)

def impl_hasOnly.f (k : Nat) (a0 : ByteArray) (a1 : ByteArray) : Option (Bool) := impl_hasOnly.l0 k a0 a1 (a0.size : Int) 0

theorem impl_hasOnly.mono_l : ∀ k, (∀ y0 y1 y2 y3, LeO (impl_hasOnly.l0 k y0 y1 y2 y3) (impl_hasOnly.l0 (k + 1) y0 y1 y2 y3))
  | 0 => fun _ _ _ _ r h => by simp [impl_hasOnly.l0] at h
  | k + 1 => by
    have ih0 := impl_hasOnly.mono_l k
    · intro y0 y1 y2 y3
      unfold impl_hasOnly.l0
      repeat' first
      | (with_reducible exact ih0 _ _ _ _)
      | (with_reducible exact LeO.refl _)
      | (with_reducible exact LeO.none _)
      | (with_reducible refine LeO.ite ?_ ?_)
      | (with_reducible refine LeO.bind ?_ (fun _ => ?_))
      | exact ih0 _ _ _ _
      | exact LeO.none _
      | refine LeO.ite ?_ ?_
      | refine LeO.bind ?_ (fun _ => ?_)

theorem impl_hasOnly.mono : ∀ a0 a1 k, LeO (impl_hasOnly.f k a0 a1) (impl_hasOnly.f (k + 1) a0 a1) := by
  intro a0 a1 k
  have ih0 := impl_hasOnly.mono_l k
  unfold impl_hasOnly.f
  repeat' first
      | (with_reducible exact ih0 _ _ _ _)
      | (with_reducible exact LeO.refl _)
      | (with_reducible exact LeO.none _)
      | (with_reducible refine LeO.ite ?_ ?_)
      | (with_reducible refine LeO.bind ?_ (fun _ => ?_))
      | exact ih0 _ _ _ _
      | exact LeO.none _
      | refine LeO.ite ?_ ?_
      | refine LeO.bind ?_ (fun _ => ?_)

def impl_hasOnly.e (k : Nat) : Refl.Ent G := ⟨93, [(.c .str), (.c .str)], .one (.c .bool), fun x => impl_hasOnly.f k x.1 x.2⟩
def impl_hasOnly.pl0 : Refl.Pn G (Refl.PT G (impl_hasOnly.e 0).ol) := ⟨true, 0, ⟨[(0, .v (.c .str)), (1, .v (.c .str)), (7, .v (.c li)), (8, .v (.c li)), (4, .k (Value.bool false))], []⟩, fun k x => impl_hasOnly.l0 k x.1 x.2.1 x.2.2.1 x.2.2.2⟩
theorem impl_hasOnly.ok (k : Nat) : Refl.EntOK Tryz.prog (impl_hasOnly.e k) := Refl.ent_ok 1000000 k GC (fun k => [strings_IndexByte.e k]) (fun k => ⟨strings_IndexByte.ok k, trivial⟩) Tryz.func93 (by kernel_rfl) [impl_hasOnly.pl0] (ps := [impl_hasOnly.pl0]) (by kernel_rfl) ⟨⟨fun x => by kernel_rfl, fun k x => by kernel_rfl⟩, trivial⟩ (fun x => by kernel_rfl)

/-! ### impl_isWordOf: function 118 -/

def impl_isWordOf.f (k : Nat) (a0 : ByteArray) (a1 : ByteArray) : Option (Bool) := (impl_within.f (a0.size : Int) 1 8).bind fun t194 => (if t194 = true then ((impl_hasOnly.f k a0 a1).bind fun t195 => (some t195)) else (some false))

theorem impl_isWordOf.mono : ∀ a0 a1 k, LeO (impl_isWordOf.f k a0 a1) (impl_isWordOf.f (k + 1) a0 a1) := by
  intro a0 a1 k
  unfold impl_isWordOf.f
  repeat' first
      | (with_reducible exact impl_hasOnly.mono _ _ _)
      | (with_reducible exact LeO.refl _)
      | (with_reducible exact LeO.none _)
      | (with_reducible refine LeO.ite ?_ ?_)
      | (with_reducible refine LeO.bind ?_ (fun _ => ?_))
      | exact impl_hasOnly.mono _ _ _
      | exact LeO.none _
      | refine LeO.ite ?_ ?_
      | refine LeO.bind ?_ (fun _ => ?_)

def impl_isWordOf.e (k : Nat) : Refl.Ent G := ⟨118, [(.c .str), (.c .str)], .one (.c .bool), fun x => impl_isWordOf.f k x.1 x.2⟩
theorem impl_isWordOf.ok (k : Nat) : Refl.EntOK Tryz.prog (impl_isWordOf.e k) := Refl.ent_ok 1000000 k GC (fun k => [impl_within.e k, impl_hasOnly.e k]) (fun k => ⟨impl_within.ok k, impl_hasOnly.ok k, trivial⟩) Tryz.func118 (by kernel_rfl) [] (ps := []) (by kernel_rfl) trivial (fun x => by kernel_rfl)

/-! ### impl_IsGloss: function 96 -/

def impl_IsGloss.f (k : Nat) (a0 : ByteArray) : Option (Bool) := (impl_isWordOf.f k a0 (⟨#[65, 66, 67, 68, 69, 70, 71, 72, 73, 74, 75, 76, 77, 78, 79, 80, 81, 82, 83, 84, 85, 86, 87, 88, 89, 90]⟩ : ByteArray)).bind fun t196 => (some t196)

theorem impl_IsGloss.mono : ∀ a0 k, LeO (impl_IsGloss.f k a0) (impl_IsGloss.f (k + 1) a0) := by
  intro a0 k
  unfold impl_IsGloss.f
  repeat' first
      | (with_reducible exact impl_isWordOf.mono _ _ _)
      | (with_reducible exact LeO.refl _)
      | (with_reducible exact LeO.none _)
      | (with_reducible refine LeO.ite ?_ ?_)
      | (with_reducible refine LeO.bind ?_ (fun _ => ?_))
      | exact impl_isWordOf.mono _ _ _
      | exact LeO.none _
      | refine LeO.ite ?_ ?_
      | refine LeO.bind ?_ (fun _ => ?_)

def impl_IsGloss.e (k : Nat) : Refl.Ent G := ⟨96, [(.c .str)], .one (.c .bool), fun x => impl_IsGloss.f k x⟩
theorem impl_IsGloss.ok (k : Nat) : Refl.EntOK Tryz.prog (impl_IsGloss.e k) := Refl.ent_ok 1000000 k GC (fun k => [impl_isWordOf.e k]) (fun k => ⟨impl_isWordOf.ok k, trivial⟩) Tryz.func96 (by kernel_rfl) [] (ps := []) (by kernel_rfl) trivial (fun x => by kernel_rfl)

/-! ### impl_isDeskEdit: function 46 -/

def impl_isDeskEdit.f (k : Nat) (a0_0 : Int) (a0_1 : Int) (a0_2 : ByteArray) (a0_3 : ByteArray) : Option (Bool) := (impl_within.f a0_1 0 20).bind fun t198 => (if t198 = true then (if a0_0 = 0 then ((impl_IsGloss.f k a0_2).bind fun t199 => (if t199 = true then (some (a0_3.toList == ([] : List UInt8))) else (some false))) else (if a0_0 = 1 then (if a0_2.toList = ([] : List UInt8) then ((impl_IsGloss.f k a0_3).bind fun t200 => (some t200)) else (some false)) else (if a0_0 = 2 then ((impl_IsGloss.f k a0_2).bind fun t201 => (if t201 = true then ((impl_IsGloss.f k a0_3).bind fun t202 => (if t202 = true then (some (a0_2.toList != a0_3.toList)) else (some false))) else (some false))) else (some false)))) else (some false))

theorem impl_isDeskEdit.mono : ∀ a0 a1 a2 a3 k, LeO (impl_isDeskEdit.f k a0 a1 a2 a3) (impl_isDeskEdit.f (k + 1) a0 a1 a2 a3) := by
  intro a0 a1 a2 a3 k
  unfold impl_isDeskEdit.f
  repeat' first
      | (with_reducible exact impl_IsGloss.mono _ _)
      | (with_reducible exact LeO.refl _)
      | (with_reducible exact LeO.none _)
      | (with_reducible refine LeO.ite ?_ ?_)
      | (with_reducible refine LeO.bind ?_ (fun _ => ?_))
      | exact impl_IsGloss.mono _ _
      | exact LeO.none _
      | refine LeO.ite ?_ ?_
      | refine LeO.bind ?_ (fun _ => ?_)

def impl_isDeskEdit.e (k : Nat) : Refl.Ent G := ⟨46, [(.agg [li, li, .str, .str])], .one (.c .bool), fun x => impl_isDeskEdit.f k x.1 x.2.1 x.2.2.1 x.2.2.2⟩
theorem impl_isDeskEdit.ok (k : Nat) : Refl.EntOK Tryz.prog (impl_isDeskEdit.e k) := Refl.ent_ok 1000000 k GC (fun k => [impl_within.e k, impl_IsGloss.e k]) (fun k => ⟨impl_within.ok k, impl_IsGloss.ok k, trivial⟩) Tryz.func46 (by kernel_rfl) [] (ps := []) (by kernel_rfl) trivial (fun x => by kernel_rfl)

theorem impl_isDeskEdit.calls (k : Nat) (a0_0 : Int) (a0_1 : Int) (a0_2 : ByteArray) (a0_3 : ByteArray) (r : Bool) (w : World) (h : impl_isDeskEdit.f k a0_0 a0_1 a0_2 a0_3 = some r) :
    Calls Tryz.prog 46 #[.agg #[.int .i64 a0_0, .int .i64 a0_1, .string a0_2, .string a0_3]] w fun e w' => e = .returned (.bool r) ∧ Below w.heap.size w w' :=
 Refl.EntOK.flat (impl_isDeskEdit.ok k) (a0_0, a0_1, a0_2, a0_3) r h (by kernel_rfl) (by kernel_rfl) (by kernel_rfl) (by kernel_rfl) w

/-! ### impl_InverseEdit: function 7 -/

def impl_InverseEdit.f (k : Nat) (a0_0 : Int) (a0_1 : Int) (a0_2 : ByteArray) (a0_3 : ByteArray) : Option (Int × Int × ByteArray × ByteArray × Bool) :=
  (impl_isDeskEdit.f k a0_0 a0_1 a0_2 a0_3).bind fun t => if t = true then (if 0 ≤ a0_0 then (if a0_0 < (3 : Int) then some (rdOf (0 : Int) [1, 0, 2] a0_0, a0_1, a0_3, a0_2, true) else none) else none) else some (0, 0, ⟨#[]⟩, ⟨#[]⟩, false)

theorem impl_InverseEdit.mono : ∀ a0 a1 a2 a3 k, LeO (impl_InverseEdit.f k a0 a1 a2 a3) (impl_InverseEdit.f (k + 1) a0 a1 a2 a3) := by
  intro a0 a1 a2 a3 k
  unfold impl_InverseEdit.f
  exact LeO.bind (impl_isDeskEdit.mono _ _ _ _ _) (fun _ => LeO.refl _)

def impl_InverseEdit.e (k : Nat) : Refl.Ent G := ⟨7, [(.agg [li, li, .str, .str])], .tup [(.agg [li, li, .str, .str]), (.c .bool)], fun x => impl_InverseEdit.f k x.1 x.2.1 x.2.2.1 x.2.2.2⟩
theorem impl_InverseEdit.ok (k : Nat) : Refl.EntOK Tryz.prog (impl_InverseEdit.e k) := Refl.ent_ok 1000000 k GC (fun k => [impl_isDeskEdit.e k]) (fun k => ⟨impl_isDeskEdit.ok k, trivial⟩) Tryz.func7 (by kernel_rfl) [] (ps := []) (by kernel_rfl) trivial (fun x => by kernel_rfl)

/-! ### spec_l1In: function 70 -/

def spec_l1In.f (a0 : Int) (a1 : Int) (a2 : Int) : Option (Bool) := if a0 ≥ a1 then (some (decide (a0 ≤ a2))) else (some false)

def spec_l1In.e (k : Nat) : Refl.Ent G := ⟨70, [(.c li), (.c li), (.c li)], .one (.c .bool), fun x => spec_l1In.f x.1 x.2.1 x.2.2⟩
theorem spec_l1In.ok (k : Nat) : Refl.EntOK Tryz.prog (spec_l1In.e k) := Refl.ent_ok 1000000 k GC (fun k => []) (fun k => trivial) Tryz.func70 (by kernel_rfl) [] (ps := []) (by kernel_rfl) trivial (fun x => by kernel_rfl)

/-! ### spec_enGloss: function 65 -/

def spec_enGloss.l0 : Nat → ByteArray → Int → Option (Bool)
  | 0, _, _ => none
  | k + 1, x0, x3 => if x3 < (x0.size : Int) then (if 0 ≤ x3 then (if x3 < (x0.size : Int) then (if (bt x0 x3) < 65 then (some false) else (if 0 ≤ x3 then (if x3 < (x0.size : Int) then (if (bt x0 x3) > 90 then (some false) else (spec_enGloss.l0 k x0 (wrap64 (x3 + 1)))) else (none)) else (none))) else (none)) else (none)) else ((spec_l1In.f (x0.size : Int) 1 8).bind fun t203 => (some t203))

def spec_enGloss.f (k : Nat) (a0 : ByteArray) : Option (Bool) := spec_enGloss.l0 k a0 0

theorem spec_enGloss.mono_l : ∀ k, (∀ y0 y1, LeO (spec_enGloss.l0 k y0 y1) (spec_enGloss.l0 (k + 1) y0 y1))
  | 0 => fun _ _ r h => by simp [spec_enGloss.l0] at h
  | k + 1 => by
    have ih0 := spec_enGloss.mono_l k
    · intro y0 y1
      unfold spec_enGloss.l0
      repeat' first
      | (with_reducible exact ih0 _ _)
      | (with_reducible exact LeO.refl _)
      | (with_reducible exact LeO.none _)
      | (with_reducible refine LeO.ite ?_ ?_)
      | (with_reducible refine LeO.bind ?_ (fun _ => ?_))
      | exact ih0 _ _
      | exact LeO.none _
      | refine LeO.ite ?_ ?_
      | refine LeO.bind ?_ (fun _ => ?_)

theorem spec_enGloss.mono : ∀ a0 k, LeO (spec_enGloss.f k a0) (spec_enGloss.f (k + 1) a0) := by
  intro a0 k
  have ih0 := spec_enGloss.mono_l k
  unfold spec_enGloss.f
  repeat' first
      | (with_reducible exact ih0 _ _)
      | (with_reducible exact LeO.refl _)
      | (with_reducible exact LeO.none _)
      | (with_reducible refine LeO.ite ?_ ?_)
      | (with_reducible refine LeO.bind ?_ (fun _ => ?_))
      | exact ih0 _ _
      | exact LeO.none _
      | refine LeO.ite ?_ ?_
      | refine LeO.bind ?_ (fun _ => ?_)

def spec_enGloss.e (k : Nat) : Refl.Ent G := ⟨65, [(.c .str)], .one (.c .bool), fun x => spec_enGloss.f k x⟩
def spec_enGloss.pl0 : Refl.Pn G (Refl.PT G (spec_enGloss.e 0).ol) := ⟨true, 0, ⟨[(0, .v (.c .str)), (3, .v (.c li)), (2, .k (Value.bool false))], []⟩, fun k x => spec_enGloss.l0 k x.1 x.2⟩
theorem spec_enGloss.ok (k : Nat) : Refl.EntOK Tryz.prog (spec_enGloss.e k) := Refl.ent_ok 1000000 k GC (fun k => [spec_l1In.e k]) (fun k => ⟨spec_l1In.ok k, trivial⟩) Tryz.func65 (by kernel_rfl) [spec_enGloss.pl0] (ps := [spec_enGloss.pl0]) (by kernel_rfl) ⟨⟨fun x => by kernel_rfl, fun k x => by kernel_rfl⟩, trivial⟩ (fun x => by kernel_rfl)

/-! ### spec_unEdit: function 47 -/

def spec_unEdit.f (k : Nat) (a0_0 : Int) (a0_1 : Int) (a0_2 : ByteArray) (a0_3 : ByteArray) : Option (Bool) := (spec_l1In.f a0_1 0 20).bind fun t205 => (if t205 = true then (if a0_0 = 0 then ((spec_enGloss.f k a0_2).bind fun t206 => (if t206 = true then (some (a0_3.toList == ([] : List UInt8))) else (some false))) else (if a0_0 = 1 then (if a0_2.toList = ([] : List UInt8) then ((spec_enGloss.f k a0_3).bind fun t207 => (some t207)) else (some false)) else (if a0_0 = 2 then ((spec_enGloss.f k a0_2).bind fun t208 => (if t208 = true then ((spec_enGloss.f k a0_3).bind fun t209 => (if t209 = true then (some (a0_2.toList != a0_3.toList)) else (some false))) else (some false))) else (some false)))) else (some false))

theorem spec_unEdit.mono : ∀ a0 a1 a2 a3 k, LeO (spec_unEdit.f k a0 a1 a2 a3) (spec_unEdit.f (k + 1) a0 a1 a2 a3) := by
  intro a0 a1 a2 a3 k
  unfold spec_unEdit.f
  repeat' first
      | (with_reducible exact spec_enGloss.mono _ _)
      | (with_reducible exact LeO.refl _)
      | (with_reducible exact LeO.none _)
      | (with_reducible refine LeO.ite ?_ ?_)
      | (with_reducible refine LeO.bind ?_ (fun _ => ?_))
      | exact spec_enGloss.mono _ _
      | exact LeO.none _
      | refine LeO.ite ?_ ?_
      | refine LeO.bind ?_ (fun _ => ?_)

def spec_unEdit.e (k : Nat) : Refl.Ent G := ⟨47, [(.agg [li, li, .str, .str])], .one (.c .bool), fun x => spec_unEdit.f k x.1 x.2.1 x.2.2.1 x.2.2.2⟩
theorem spec_unEdit.ok (k : Nat) : Refl.EntOK Tryz.prog (spec_unEdit.e k) := Refl.ent_ok 1000000 k GC (fun k => [spec_l1In.e k, spec_enGloss.e k]) (fun k => ⟨spec_l1In.ok k, spec_enGloss.ok k, trivial⟩) Tryz.func47 (by kernel_rfl) [] (ps := []) (by kernel_rfl) trivial (fun x => by kernel_rfl)

/-! ### spec_InverseEdit: function 8 -/

def spec_InverseEdit.f (k : Nat) (a0_0 : Int) (a0_1 : Int) (a0_2 : ByteArray) (a0_3 : ByteArray) : Option (Int × Int × ByteArray × ByteArray × Bool) := (spec_unEdit.f k a0_0 a0_1 a0_2 a0_3).bind fun t212 => (if t212 = true then (if a0_0 = 0 then (some (1, a0_1, a0_3, a0_2, true)) else (if a0_0 = 1 then (some (0, a0_1, a0_3, a0_2, true)) else (some (a0_0, a0_1, a0_3, a0_2, true)))) else (some (0, 0, (⟨#[]⟩ : ByteArray), (⟨#[]⟩ : ByteArray), false)))

theorem spec_InverseEdit.mono : ∀ a0 a1 a2 a3 k, LeO (spec_InverseEdit.f k a0 a1 a2 a3) (spec_InverseEdit.f (k + 1) a0 a1 a2 a3) := by
  intro a0 a1 a2 a3 k
  unfold spec_InverseEdit.f
  repeat' first
      | (with_reducible exact spec_unEdit.mono _ _ _ _ _)
      | (with_reducible exact LeO.refl _)
      | (with_reducible exact LeO.none _)
      | (with_reducible refine LeO.ite ?_ ?_)
      | (with_reducible refine LeO.bind ?_ (fun _ => ?_))
      | exact spec_unEdit.mono _ _ _ _ _
      | exact LeO.none _
      | refine LeO.ite ?_ ?_
      | refine LeO.bind ?_ (fun _ => ?_)

def spec_InverseEdit.e (k : Nat) : Refl.Ent G := ⟨8, [(.agg [li, li, .str, .str])], .tup [(.agg [li, li, .str, .str]), (.c .bool)], fun x => spec_InverseEdit.f k x.1 x.2.1 x.2.2.1 x.2.2.2⟩
theorem spec_InverseEdit.ok (k : Nat) : Refl.EntOK Tryz.prog (spec_InverseEdit.e k) := Refl.ent_ok 1000000 k GC (fun k => [spec_unEdit.e k]) (fun k => ⟨spec_unEdit.ok k, trivial⟩) Tryz.func8 (by kernel_rfl) [] (ps := []) (by kernel_rfl) trivial (fun x => by kernel_rfl)

/-! ### strconv_Itoa: function 48 -/

/-- The digits, and the pairs of digits, as the library lays them. -/
def itA : ByteArray := ⟨#[48, 49, 50, 51, 52, 53, 54, 55, 56, 57, 97, 98, 99, 100, 101, 102, 103, 104, 105, 106, 107, 108, 109, 110, 111, 112, 113, 114, 115, 116, 117, 118, 119, 120, 121, 122]⟩
def itB : ByteArray := ⟨#[48, 48, 48, 49, 48, 50, 48, 51, 48, 52, 48, 53, 48, 54, 48, 55, 48, 56, 48, 57, 49, 48, 49, 49, 49, 50, 49, 51, 49, 52, 49, 53, 49, 54, 49, 55, 49, 56, 49, 57, 50, 48, 50, 49, 50, 50, 50, 51, 50, 52, 50, 53, 50, 54, 50, 55, 50, 56, 50, 57, 51, 48, 51, 49, 51, 50, 51, 51, 51, 52, 51, 53, 51, 54, 51, 55, 51, 56, 51, 57, 52, 48, 52, 49, 52, 50, 52, 51, 52, 52, 52, 53, 52, 54, 52, 55, 52, 56, 52, 57, 53, 48, 53, 49, 53, 50, 53, 51, 53, 52, 53, 53, 53, 54, 53, 55, 53, 56, 53, 57, 54, 48, 54, 49, 54, 50, 54, 51, 54, 52, 54, 53, 54, 54, 54, 55, 54, 56, 54, 57, 55, 48, 55, 49, 55, 50, 55, 51, 55, 52, 55, 53, 55, 54, 55, 55, 55, 56, 55, 57, 56, 48, 56, 49, 56, 50, 56, 51, 56, 52, 56, 53, 56, 54, 56, 55, 56, 56, 56, 57, 57, 48, 57, 49, 57, 50, 57, 51, 57, 52, 57, 53, 57, 54, 57, 55, 57, 56, 57, 57]⟩
/-- The text of a number below 100. -/
def itT (n : Int) : ByteArray := if n < 10 then itA.extract n.toNat (n + 1).toNat else itB.extract (n * 2).toNat (n * 2 + 2).toNat
set_option maxHeartbeats 4000000 in
set_option maxRecDepth 100000 in
theorem itSmall (n : Int) (w : World) (h0 : 0 ≤ n) (h1 : n < 100) : Calls Tryz.prog 136 #[.int .i64 n] w fun e w' => e = .returned (.string (itT n)) ∧ Drawn0 w w' := by
  have e1 : IntKind.i64.wrap (n + 1) = n + 1 := by simp [IntKind.wrap, IntKind.bits, IntKind.signed]; omega
  have e2 : IntKind.i64.wrap (n * 2) = n * 2 := by simp [IntKind.wrap, IntKind.bits, IntKind.signed]; omega
  have e3 : IntKind.i64.wrap (n * 2 + 2) = n * 2 + 2 := by simp [IntKind.wrap, IntKind.bits, IntKind.signed]; omega
  by_cases h : n < 10
  · have c0 : decide (n < 10) = true := decide_eq_true h
    have c1 : itT n = itA.extract n.toNat (n + 1).toNat := if_pos h
    have b0 : (0 ≤ n) = True := eq_true h0
    have b1 : (n ≤ n + 1) = True := eq_true (by omega)
    have b2 : (n + 1 ≤ 36) = True := eq_true (by omega)
    have b3 : decide (0 ≤ n) = true := decide_eq_true h0
    have b4 : decide (n ≤ n + 1) = true := decide_eq_true (by omega)
    have b5 : decide (n + 1 ≤ 36) = true := decide_eq_true (by omega)
    rw [c1]
    clear h c1 h0 h1
    go_enter Tryz.func136, Tryz.ntmps136
    go_wp2
    go_ret
    exact ⟨by first | rfl | (simp [itA]; done), by repeat (first | exact Drawn0.refl _ | apply Drawn0.step)⟩
  · have c0 : decide (n < 10) = false := decide_eq_false h
    have c1 : itT n = itB.extract (n * 2).toNat (n * 2 + 2).toNat := if_neg h
    have b0 : (0 ≤ n * 2) = True := eq_true (by omega)
    have b1 : (n * 2 ≤ n * 2 + 2) = True := eq_true (by omega)
    have b2 : (n * 2 + 2 ≤ 200) = True := eq_true (by omega)
    have b3 : decide (0 ≤ n * 2) = true := decide_eq_true (by omega)
    have b4 : decide (n * 2 ≤ n * 2 + 2) = true := decide_eq_true (by omega)
    have b5 : decide (n * 2 + 2 ≤ 200) = true := decide_eq_true (by omega)
    rw [c1]
    clear h c1 h0 h1
    go_enter Tryz.func136, Tryz.ntmps136
    go_wp2
    go_ret
    exact ⟨by first | rfl | (simp [itB]; done), by repeat (first | exact Drawn0.refl _ | apply Drawn0.step)⟩
set_option maxHeartbeats 4000000 in
set_option maxRecDepth 100000 in
theorem itFormat (n : Int) (w : World) (h0 : 0 ≤ n) (h1 : n < 100) : Calls Tryz.prog 119 #[.int .i64 n, .int .i64 10] w fun e w' => e = .returned (.string (itT n)) ∧ Drawn0 w w' := by
  have HS := Aside0.mk (fun W => itSmall n W h0 h1)
  have e1 : IntKind.i64.wrap n = n := by simp [IntKind.wrap, IntKind.bits, IntKind.signed]; omega
  have c0 : decide (0 ≤ n) = true := decide_eq_true h0
  have c1 : decide (n < 100) = true := decide_eq_true h1
  clear h0 h1
  go_enter Tryz.func119, Tryz.ntmps119
  go_wp2_with (go_at_call 136; refine (HS.out _).mono ?_; rintro e wq ⟨rfl, ⟨nd, rfl⟩⟩)
  go_ret
  exact ⟨by first | rfl | (simp; done), by repeat (first | exact Drawn0.refl _ | apply Drawn0.step)⟩
set_option maxHeartbeats 4000000 in
set_option maxRecDepth 100000 in
theorem itIn (n : Int) (w : World) (h0 : 0 ≤ n) (h1 : n < 100) : Calls Tryz.prog 97 #[.int .i64 n] w fun e w' => e = .returned (.string (itT n)) ∧ Drawn0 w w' := by
  have HS := Aside0.mk (fun W => itFormat n W h0 h1)
  have e1 : IntKind.i64.wrap n = n := by simp [IntKind.wrap, IntKind.bits, IntKind.signed]; omega
  clear h0 h1
  go_enter Tryz.func97, Tryz.ntmps97
  go_wp2_with (go_at_call 119; refine (HS.out _).mono ?_; rintro e wq ⟨rfl, ⟨nd, rfl⟩⟩)
  go_ret
  exact ⟨by first | rfl | (simp; done), by repeat (first | exact Drawn0.refl _ | apply Drawn0.step)⟩
def strconv_Itoa.f (a0 : Int) : Option ByteArray := if 0 ≤ a0 ∧ a0 < 100 then some (itT a0) else none
set_option maxHeartbeats 4000000 in
set_option maxRecDepth 100000 in
theorem strconv_Itoa.calls (a0 : Int) (r : ByteArray) (w : World) (h : strconv_Itoa.f a0 = some r) : Calls Tryz.prog 48 #[.int .i64 a0] w fun e w' => e = .returned (.string r) ∧ Drawn0 w w' := by
  unfold strconv_Itoa.f at h
  by_cases hn : 0 ≤ a0 ∧ a0 < 100
  · rw [if_pos hn] at h
    obtain rfl := Option.some.inj h
    have HS := Aside0.mk (fun W => itIn a0 W hn.1 hn.2)
    clear h hn
    go_enter Tryz.func48, Tryz.ntmps48
    go_wp2_with (go_at_call 97; refine (HS.out _).mono ?_; rintro e wq ⟨rfl, ⟨nd, rfl⟩⟩)
    go_ret
    exact ⟨by first | rfl | (simp; done), by repeat (first | exact Drawn0.refl _ | apply Drawn0.step)⟩
  · rw [if_neg hn] at h; exact absurd h (by simp)

def strconv_Itoa.e (k : Nat) : Refl.Ent G := ⟨48, [(.c li)], .one (.c .str), fun x => strconv_Itoa.f x⟩
theorem strconv_Itoa.ok (k : Nat) : Refl.EntOK Tryz.prog (strconv_Itoa.e k) := Refl.entOK_hand Tryz.func48 (by kernel_rfl) (fun x => by kernel_rfl) (fun y => ⟨by kernel_rfl, by kernel_rfl, by kernel_rfl, by kernel_rfl⟩) (fun x y h w => (strconv_Itoa.calls x y w h).mono fun e w' hh => ⟨hh.1, hh.2.below⟩)

/-! ### impl_EditText: function 9 -/

def impl_EditText.f (k : Nat) (a0_0 : Int) (a0_1 : Int) (a0_2 : ByteArray) (a0_3 : ByteArray) : Option (ByteArray × Bool) := (impl_isDeskEdit.f k a0_0 a0_1 a0_2 a0_3).bind fun t214 => (if t214 = true then ((strconv_Itoa.f a0_1).bind fun t215 => (if t215.size + 1 ≤ 9223372036854775807 then (if a0_0 = 0 then (if 1 + (t215 ++ (⟨#[32]⟩ : ByteArray)).size ≤ 9223372036854775807 then (if ((⟨#[43]⟩ : ByteArray) ++ (t215 ++ (⟨#[32]⟩ : ByteArray))).size + a0_2.size ≤ 9223372036854775807 then (some (((⟨#[43]⟩ : ByteArray) ++ (t215 ++ (⟨#[32]⟩ : ByteArray))) ++ a0_2, true)) else (none)) else (none)) else (if a0_0 = 1 then (if 1 + (t215 ++ (⟨#[32]⟩ : ByteArray)).size ≤ 9223372036854775807 then (if ((⟨#[45]⟩ : ByteArray) ++ (t215 ++ (⟨#[32]⟩ : ByteArray))).size + a0_3.size ≤ 9223372036854775807 then (some (((⟨#[45]⟩ : ByteArray) ++ (t215 ++ (⟨#[32]⟩ : ByteArray))) ++ a0_3, true)) else (none)) else (none)) else (if 1 + (t215 ++ (⟨#[32]⟩ : ByteArray)).size ≤ 9223372036854775807 then (if ((⟨#[61]⟩ : ByteArray) ++ (t215 ++ (⟨#[32]⟩ : ByteArray))).size + a0_3.size ≤ 9223372036854775807 then (if (((⟨#[61]⟩ : ByteArray) ++ (t215 ++ (⟨#[32]⟩ : ByteArray))) ++ a0_3).size + 1 ≤ 9223372036854775807 then (if ((((⟨#[61]⟩ : ByteArray) ++ (t215 ++ (⟨#[32]⟩ : ByteArray))) ++ a0_3) ++ (⟨#[62]⟩ : ByteArray)).size + a0_2.size ≤ 9223372036854775807 then (some (((((⟨#[61]⟩ : ByteArray) ++ (t215 ++ (⟨#[32]⟩ : ByteArray))) ++ a0_3) ++ (⟨#[62]⟩ : ByteArray)) ++ a0_2, true)) else (none)) else (none)) else (none)) else (none)))) else (none))) else (some ((⟨#[]⟩ : ByteArray), false)))

theorem impl_EditText.mono : ∀ a0 a1 a2 a3 k, LeO (impl_EditText.f k a0 a1 a2 a3) (impl_EditText.f (k + 1) a0 a1 a2 a3) := by
  intro a0 a1 a2 a3 k
  unfold impl_EditText.f
  repeat' first
      | (with_reducible exact impl_isDeskEdit.mono _ _ _ _ _)
      | (with_reducible exact LeO.refl _)
      | (with_reducible exact LeO.none _)
      | (with_reducible refine LeO.ite ?_ ?_)
      | (with_reducible refine LeO.bind ?_ (fun _ => ?_))
      | exact impl_isDeskEdit.mono _ _ _ _ _
      | exact LeO.none _
      | refine LeO.ite ?_ ?_
      | refine LeO.bind ?_ (fun _ => ?_)

def impl_EditText.e (k : Nat) : Refl.Ent G := ⟨9, [(.agg [li, li, .str, .str])], .tup [(.c .str), (.c .bool)], fun x => impl_EditText.f k x.1 x.2.1 x.2.2.1 x.2.2.2⟩
theorem impl_EditText.ok (k : Nat) : Refl.EntOK Tryz.prog (impl_EditText.e k) := Refl.ent_ok 1000000 k GC (fun k => [impl_isDeskEdit.e k, strconv_Itoa.e k]) (fun k => ⟨impl_isDeskEdit.ok k, strconv_Itoa.ok k, trivial⟩) Tryz.func9 (by kernel_rfl) [] (ps := []) (by kernel_rfl) trivial (fun x => by kernel_rfl)

/-! ### spec_l1Num: function 49 -/

def spec_l1Num.f : Nat → Int → Option (ByteArray)
  | 0, _ => none
  | k + 1, a0 => if a0 < 10 then (some (strOfNums (([(wrap64 (48 + a0)) % 256] : List Int)))) else ((spec_l1Num.f k (wrap64 (Int.tdiv a0 10))).bind fun t219 => ((some (([(wrap64 (48 + (Int.tmod a0 10))) % 256] : List Int) : List Int)).bind fun y220 => (if t219.size + (strOfNums y220).size ≤ 9223372036854775807 then (some (t219 ++ (strOfNums y220))) else (none))))

theorem spec_l1Num.mono_l : ∀ k, (∀ y0, LeO (spec_l1Num.f k y0) (spec_l1Num.f (k + 1) y0))
  | 0 => fun _ r h => by simp [spec_l1Num.f] at h
  | k + 1 => by
    have ih0 := spec_l1Num.mono_l k
    · intro y0
      unfold spec_l1Num.f
      repeat' first
      | (with_reducible exact ih0 _)
      | (with_reducible exact LeO.refl _)
      | (with_reducible exact LeO.none _)
      | (with_reducible refine LeO.ite ?_ ?_)
      | (with_reducible refine LeO.bind ?_ (fun _ => ?_))
      | exact ih0 _
      | exact LeO.none _
      | refine LeO.ite ?_ ?_
      | refine LeO.bind ?_ (fun _ => ?_)

theorem spec_l1Num.mono : ∀ a0 k, LeO (spec_l1Num.f k a0) (spec_l1Num.f (k + 1) a0) := by
  intro a0 k
  have ih0 := spec_l1Num.mono_l k
  exact ih0 a0

def spec_l1Num.e (k : Nat) : Refl.Ent G := ⟨49, [(.c li)], .one (.c .str), fun x => spec_l1Num.f k x⟩
theorem spec_l1Num.ok : ∀ k : Nat, Refl.EntOK Tryz.prog (spec_l1Num.e k)
 | 0 => Refl.entOK_none Tryz.func49 (by kernel_rfl) (fun x => by kernel_rfl)
 | k + 1 => Refl.ent_ok 1000000 0 GC (fun _ => [spec_l1Num.e k]) (fun _ => ⟨spec_l1Num.ok k, trivial⟩) Tryz.func49 (by kernel_rfl) [] (ps := []) (by kernel_rfl) trivial (fun x => by kernel_rfl)

/-! ### spec_EditText: function 10 -/

def spec_EditText.f (k : Nat) (a0_0 : Int) (a0_1 : Int) (a0_2 : ByteArray) (a0_3 : ByteArray) : Option (ByteArray × Bool) := (spec_unEdit.f k a0_0 a0_1 a0_2 a0_3).bind fun t224 => (if t224 = true then (if 0 ≤ a0_0 then (if a0_0 ≤ (wrap64 (a0_0 + 1)) then (if (wrap64 (a0_0 + 1)) ≤ 3 then ((spec_l1Num.f k a0_1).bind fun t225 => (if ((⟨#[43, 45, 61]⟩ : ByteArray).extract (a0_0 : Int).toNat ((wrap64 (a0_0 + 1)) : Int).toNat).size + t225.size ≤ 9223372036854775807 then (if (((⟨#[43, 45, 61]⟩ : ByteArray).extract (a0_0 : Int).toNat ((wrap64 (a0_0 + 1)) : Int).toNat) ++ t225).size + 1 ≤ 9223372036854775807 then (if a0_0 = 0 then (if ((((⟨#[43, 45, 61]⟩ : ByteArray).extract (a0_0 : Int).toNat ((wrap64 (a0_0 + 1)) : Int).toNat) ++ t225) ++ (⟨#[32]⟩ : ByteArray)).size + a0_2.size ≤ 9223372036854775807 then (some (((((⟨#[43, 45, 61]⟩ : ByteArray).extract (a0_0 : Int).toNat ((wrap64 (a0_0 + 1)) : Int).toNat) ++ t225) ++ (⟨#[32]⟩ : ByteArray)) ++ a0_2, true)) else (none)) else (if a0_0 = 1 then (if ((((⟨#[43, 45, 61]⟩ : ByteArray).extract (a0_0 : Int).toNat ((wrap64 (a0_0 + 1)) : Int).toNat) ++ t225) ++ (⟨#[32]⟩ : ByteArray)).size + a0_3.size ≤ 9223372036854775807 then (some (((((⟨#[43, 45, 61]⟩ : ByteArray).extract (a0_0 : Int).toNat ((wrap64 (a0_0 + 1)) : Int).toNat) ++ t225) ++ (⟨#[32]⟩ : ByteArray)) ++ a0_3, true)) else (none)) else (if a0_3.size + 1 ≤ 9223372036854775807 then (if (a0_3 ++ (⟨#[62]⟩ : ByteArray)).size + a0_2.size ≤ 9223372036854775807 then (if ((((⟨#[43, 45, 61]⟩ : ByteArray).extract (a0_0 : Int).toNat ((wrap64 (a0_0 + 1)) : Int).toNat) ++ t225) ++ (⟨#[32]⟩ : ByteArray)).size + ((a0_3 ++ (⟨#[62]⟩ : ByteArray)) ++ a0_2).size ≤ 9223372036854775807 then (some (((((⟨#[43, 45, 61]⟩ : ByteArray).extract (a0_0 : Int).toNat ((wrap64 (a0_0 + 1)) : Int).toNat) ++ t225) ++ (⟨#[32]⟩ : ByteArray)) ++ ((a0_3 ++ (⟨#[62]⟩ : ByteArray)) ++ a0_2), true)) else (none)) else (none)) else (none)))) else (none)) else (none))) else (none)) else (none)) else (none)) else (some ((⟨#[]⟩ : ByteArray), false)))

theorem spec_EditText.mono : ∀ a0 a1 a2 a3 k, LeO (spec_EditText.f k a0 a1 a2 a3) (spec_EditText.f (k + 1) a0 a1 a2 a3) := by
  intro a0 a1 a2 a3 k
  unfold spec_EditText.f
  repeat' first
      | (with_reducible exact spec_l1Num.mono _ _)
      | (with_reducible exact spec_unEdit.mono _ _ _ _ _)
      | (with_reducible exact LeO.refl _)
      | (with_reducible exact LeO.none _)
      | (with_reducible refine LeO.ite ?_ ?_)
      | (with_reducible refine LeO.bind ?_ (fun _ => ?_))
      | exact spec_l1Num.mono _ _
      | exact spec_unEdit.mono _ _ _ _ _
      | exact LeO.none _
      | refine LeO.ite ?_ ?_
      | refine LeO.bind ?_ (fun _ => ?_)

def spec_EditText.e (k : Nat) : Refl.Ent G := ⟨10, [(.agg [li, li, .str, .str])], .tup [(.c .str), (.c .bool)], fun x => spec_EditText.f k x.1 x.2.1 x.2.2.1 x.2.2.2⟩
theorem spec_EditText.ok (k : Nat) : Refl.EntOK Tryz.prog (spec_EditText.e k) := Refl.ent_ok 1000000 k GC (fun k => [spec_unEdit.e k, spec_l1Num.e k]) (fun k => ⟨spec_unEdit.ok k, spec_l1Num.ok k, trivial⟩) Tryz.func10 (by kernel_rfl) [] (ps := []) (by kernel_rfl) trivial (fun x => by kernel_rfl)

/-! ### spec_unMake: function 101 -/

def spec_unMake.j0 : Nat → List ByteArray → Bool → Int → Int → ByteArray → ByteArray → Option (List ByteArray × Bool)
  | 0, _, _, _, _, _, _ => none
  | k + 1, x0, x52, x227000, x227001, x227002, x227003 => if x52 = true then (some (([] : List ByteArray), false)) else ((some (([] : List ByteArray) : List ByteArray)).bind fun y243 => (if 0 ≤ x227001 then (if x227001 ≤ (x0.length : Int) then (if Refl.appLen y243 (x0.take (x227001 : Int).toNat) < 8796093022208 then ((some (y243 ++ (x0.take (x227001 : Int).toNat) : List ByteArray)).bind fun y247 => (if x227000 = 2 then (if y247.length < 8796093022208 then ((some (y247 ++ [x227002] : List ByteArray)).bind fun y250 => (if 0 ≤ (wrap64 (x227001 + 1)) then (if (wrap64 (x227001 + 1)) ≤ (x0.length : Int) then (if Refl.appLen y250 (x0.drop ((wrap64 (x227001 + 1)) : Int).toNat) < 8796093022208 then (some ((y250 ++ (x0.drop ((wrap64 (x227001 + 1)) : Int).toNat)), true)) else (none)) else (none)) else (none))) else (none)) else (if 0 ≤ (wrap64 (x227001 + 1)) then (if (wrap64 (x227001 + 1)) ≤ (x0.length : Int) then (if Refl.appLen y247 (x0.drop ((wrap64 (x227001 + 1)) : Int).toNat) < 8796093022208 then (some ((y247 ++ (x0.drop ((wrap64 (x227001 + 1)) : Int).toNat)), true)) else (none)) else (none)) else (none)))) else (none)) else (none)) else (none)))

def spec_unMake.f (k : Nat) (l0 : List ByteArray) (a1_0 : Int) (a1_1 : Int) (a1_2 : ByteArray) (a1_3 : ByteArray) : Option (List ByteArray × Bool) := (spec_unEdit.f k a1_0 a1_1 a1_2 a1_3).bind fun t227 => (if t227 = true then (if a1_0 = 0 then (if a1_1 > (l0.length : Int) then (some (([] : List ByteArray), false)) else (if (l0.length : Int) = 20 then (some (([] : List ByteArray), false)) else ((some (([] : List ByteArray) : List ByteArray)).bind fun y228 => (if 0 ≤ a1_1 then (if a1_1 ≤ (l0.length : Int) then (if Refl.appLen y228 (l0.take (a1_1 : Int).toNat) < 8796093022208 then ((some (y228 ++ (l0.take (a1_1 : Int).toNat) : List ByteArray)).bind fun y232 => (if y232.length < 8796093022208 then ((some (y232 ++ [a1_2] : List ByteArray)).bind fun y235 => (if 0 ≤ a1_1 then (if a1_1 ≤ (l0.length : Int) then (if Refl.appLen y235 (l0.drop (a1_1 : Int).toNat) < 8796093022208 then (some ((y235 ++ (l0.drop (a1_1 : Int).toNat)), true)) else (none)) else (none)) else (none))) else (none))) else (none)) else (none)) else (none))))) else (if a1_1 ≥ (l0.length : Int) then (spec_unMake.j0 k l0 true a1_0 a1_1 a1_2 a1_3) else (if 0 ≤ a1_1 then (if a1_1 < (l0.length : Int) then (spec_unMake.j0 k l0 ((rdOf ByteArray.empty l0 a1_1).toList != a1_3.toList) a1_0 a1_1 a1_2 a1_3) else (none)) else (none)))) else (some (([] : List ByteArray), false)))

theorem spec_unMake.mono_l : ∀ k, (∀ y0 y1 y2 y3 y4 y5, LeO (spec_unMake.j0 k y0 y1 y2 y3 y4 y5) (spec_unMake.j0 (k + 1) y0 y1 y2 y3 y4 y5))
  | 0 => fun _ _ _ _ _ _ r h => by simp [spec_unMake.j0] at h
  | k + 1 => by
    have ih0 := spec_unMake.mono_l k
    · intro y0 y1 y2 y3 y4 y5
      unfold spec_unMake.j0
      repeat' first
      | (with_reducible exact ih0 _ _ _ _ _ _)
      | (with_reducible exact spec_unEdit.mono _ _ _ _ _)
      | (with_reducible exact LeO.refl _)
      | (with_reducible exact LeO.none _)
      | (with_reducible refine LeO.ite ?_ ?_)
      | (with_reducible refine LeO.bind ?_ (fun _ => ?_))
      | exact ih0 _ _ _ _ _ _
      | exact spec_unEdit.mono _ _ _ _ _
      | exact LeO.none _
      | refine LeO.ite ?_ ?_
      | refine LeO.bind ?_ (fun _ => ?_)

theorem spec_unMake.mono : ∀ a0 a1 a2 a3 a4 k, LeO (spec_unMake.f k a0 a1 a2 a3 a4) (spec_unMake.f (k + 1) a0 a1 a2 a3 a4) := by
  intro a0 a1 a2 a3 a4 k
  have ih0 := spec_unMake.mono_l k
  unfold spec_unMake.f
  repeat' first
      | (with_reducible exact ih0 _ _ _ _ _ _)
      | (with_reducible exact spec_unEdit.mono _ _ _ _ _)
      | (with_reducible exact LeO.refl _)
      | (with_reducible exact LeO.none _)
      | (with_reducible refine LeO.ite ?_ ?_)
      | (with_reducible refine LeO.bind ?_ (fun _ => ?_))
      | exact ih0 _ _ _ _ _ _
      | exact spec_unEdit.mono _ _ _ _ _
      | exact LeO.none _
      | refine LeO.ite ?_ ?_
      | refine LeO.bind ?_ (fun _ => ?_)

def spec_unMake.e (k : Nat) : Refl.Ent G := ⟨101, [(.c (.row 9 false)), (.agg [li, li, .str, .str])], .tup [(.c (.row 9 true)), (.c .bool)], fun x => spec_unMake.f k x.1 x.2.1 x.2.2.1 x.2.2.2.1 x.2.2.2.2⟩
def spec_unMake.pj0 : Refl.Pn G (Refl.PT G (spec_unMake.e 0).ol) := ⟨false, 1000007, ⟨[(0, .v (.c (.row 9 false))), (52, .v (.c .bool)), (3, .box 3 0), (5, .k (Value.bool false))], [(3, 25, gL2)]⟩, fun k x => spec_unMake.j0 k x.1 x.2.1 x.2.2.1 x.2.2.2.1 x.2.2.2.2.1 x.2.2.2.2.2⟩
theorem spec_unMake.ok (k : Nat) : Refl.EntOK Tryz.prog (spec_unMake.e k) := Refl.ent_ok 1000000 k GC (fun k => [spec_unEdit.e k]) (fun k => ⟨spec_unEdit.ok k, trivial⟩) Tryz.func101 (by kernel_rfl) [spec_unMake.pj0] (ps := [spec_unMake.pj0]) (by kernel_rfl) ⟨⟨fun x => by kernel_rfl, fun k x => by kernel_rfl⟩, trivial⟩ (fun x => by kernel_rfl)

/-! ### spec_unAfter: function 72 -/

def spec_unAfter.l0 : Nat → List ByteArray → List (S25) → Int → Int → Option (List ByteArray × Bool)
  | 0, _, _, _, _ => none
  | k + 1, x6, x14, x15, x16 => if x16 < x15 then (if 0 ≤ x16 then (if x16 < (x14.length : Int) then ((spec_unMake.f k x6 ((rd_T25 x14 x16).f0) ((rd_T25 x14 x16).f1) ((rd_T25 x14 x16).f2) ((rd_T25 x14 x16).f3)).bind fun bt269 => (if bt269.2 = true then (spec_unAfter.l0 k bt269.1 x14 x15 (wrap64 (x16 + 1))) else (some (([] : List ByteArray), false)))) else (none)) else (none)) else (some (x6, true))

def spec_unAfter.f (k : Nat) (l0 : List ByteArray) (l1 : List (S25)) : Option (List ByteArray × Bool) := (some (([] : List ByteArray) : List ByteArray)).bind fun y261 => (if Refl.appLen y261 l0 < 8796093022208 then (spec_unAfter.l0 k (y261 ++ l0) l1 (l1.length : Int) 0) else (none))

theorem spec_unAfter.mono_l : ∀ k, (∀ y0 y1 y2 y3, LeO (spec_unAfter.l0 k y0 y1 y2 y3) (spec_unAfter.l0 (k + 1) y0 y1 y2 y3))
  | 0 => fun _ _ _ _ r h => by simp [spec_unAfter.l0] at h
  | k + 1 => by
    have ih0 := spec_unAfter.mono_l k
    · intro y0 y1 y2 y3
      unfold spec_unAfter.l0
      repeat' first
      | (with_reducible exact ih0 _ _ _ _)
      | (with_reducible exact spec_unMake.mono _ _ _ _ _ _)
      | (with_reducible exact LeO.refl _)
      | (with_reducible exact LeO.none _)
      | (with_reducible refine LeO.ite ?_ ?_)
      | (with_reducible refine LeO.bind ?_ (fun _ => ?_))
      | exact ih0 _ _ _ _
      | exact spec_unMake.mono _ _ _ _ _ _
      | exact LeO.none _
      | refine LeO.ite ?_ ?_
      | refine LeO.bind ?_ (fun _ => ?_)

theorem spec_unAfter.mono : ∀ a0 a1 k, LeO (spec_unAfter.f k a0 a1) (spec_unAfter.f (k + 1) a0 a1) := by
  intro a0 a1 k
  have ih0 := spec_unAfter.mono_l k
  unfold spec_unAfter.f
  repeat' first
      | (with_reducible exact ih0 _ _ _ _)
      | (with_reducible exact spec_unMake.mono _ _ _ _ _ _)
      | (with_reducible exact LeO.refl _)
      | (with_reducible exact LeO.none _)
      | (with_reducible refine LeO.ite ?_ ?_)
      | (with_reducible refine LeO.bind ?_ (fun _ => ?_))
      | exact ih0 _ _ _ _
      | exact spec_unMake.mono _ _ _ _ _ _
      | exact LeO.none _
      | refine LeO.ite ?_ ?_
      | refine LeO.bind ?_ (fun _ => ?_)

def spec_unAfter.e (k : Nat) : Refl.Ent G := ⟨72, [(.c (.row 9 false)), (.c (.row 25 false))], .tup [(.c (.row 9 true)), (.c .bool)], fun x => spec_unAfter.f k x.1 x.2⟩
def spec_unAfter.pl0 : Refl.Pn G (Refl.PT G (spec_unAfter.e 0).ol) := ⟨true, 0, ⟨[(6, .v (.c (.row 9 true))), (14, .v (.c (.row 25 false))), (15, .v (.c li)), (16, .v (.c li)), (5, .k (Value.bool false))], []⟩, fun k x => spec_unAfter.l0 k x.1 x.2.1 x.2.2.1 x.2.2.2⟩
theorem spec_unAfter.ok (k : Nat) : Refl.EntOK Tryz.prog (spec_unAfter.e k) := Refl.ent_ok 1000000 k GC (fun k => [spec_unMake.e k]) (fun k => ⟨spec_unMake.ok k, trivial⟩) Tryz.func72 (by kernel_rfl) [spec_unAfter.pl0] (ps := [spec_unAfter.pl0]) (by kernel_rfl) ⟨⟨fun x => by kernel_rfl, fun k x => by kernel_rfl⟩, trivial⟩ (fun x => by kernel_rfl)

/-! ### spec_unAll: function 73 -/

def spec_unAll.l0 : Nat → List (S25) → Int → List ByteArray → List (S25) → List (S25) → Option ((List (S25)))
  | 0, _, _, _, _, _ => none
  | k + 1, x3, x4, x274000, x274001, x274002 => if x4 ≥ 0 then (if 0 ≤ x4 then (if x4 < (x274002.length : Int) then (if x3.length < 2932031007402 then (spec_unAll.l0 k (x3 ++ [(⟨(rd_T25 x274002 x4).f0, (rd_T25 x274002 x4).f1, (rd_T25 x274002 x4).f2, (rd_T25 x274002 x4).f3⟩ : S25)]) (wrap64 (x4 - 1)) x274000 x274001 x274002) else (none)) else (none)) else (none)) else (some x3)

def spec_unAll.f (k : Nat) (l0_0 : List ByteArray) (l0_1 : List (S25)) (l0_2 : List (S25)) : Option ((List (S25))) := (some (([] : List (S25)) : List (S25))).bind fun y274 => (if Refl.appLen y274 l0_1 < 2932031007402 then (spec_unAll.l0 k (y274 ++ l0_1) (wrap64 ((l0_2.length : Int) - 1)) l0_0 l0_1 l0_2) else (none))

theorem spec_unAll.mono_l : ∀ k, (∀ y0 y1 y2 y3 y4, LeO (spec_unAll.l0 k y0 y1 y2 y3 y4) (spec_unAll.l0 (k + 1) y0 y1 y2 y3 y4))
  | 0 => fun _ _ _ _ _ r h => by simp [spec_unAll.l0] at h
  | k + 1 => by
    have ih0 := spec_unAll.mono_l k
    · intro y0 y1 y2 y3 y4
      unfold spec_unAll.l0
      repeat' first
      | (with_reducible exact ih0 _ _ _ _ _)
      | (with_reducible exact LeO.refl _)
      | (with_reducible exact LeO.none _)
      | (with_reducible refine LeO.ite ?_ ?_)
      | (with_reducible refine LeO.bind ?_ (fun _ => ?_))
      | exact ih0 _ _ _ _ _
      | exact LeO.none _
      | refine LeO.ite ?_ ?_
      | refine LeO.bind ?_ (fun _ => ?_)

theorem spec_unAll.mono : ∀ a0 a1 a2 k, LeO (spec_unAll.f k a0 a1 a2) (spec_unAll.f (k + 1) a0 a1 a2) := by
  intro a0 a1 a2 k
  have ih0 := spec_unAll.mono_l k
  unfold spec_unAll.f
  repeat' first
      | (with_reducible exact ih0 _ _ _ _ _)
      | (with_reducible exact LeO.refl _)
      | (with_reducible exact LeO.none _)
      | (with_reducible refine LeO.ite ?_ ?_)
      | (with_reducible refine LeO.bind ?_ (fun _ => ?_))
      | exact ih0 _ _ _ _ _
      | exact LeO.none _
      | refine LeO.ite ?_ ?_
      | refine LeO.bind ?_ (fun _ => ?_)

def spec_unAll.e (k : Nat) : Refl.Ent G := ⟨73, [(.agg gL4)], .one (.c (.row 25 true)), fun x => spec_unAll.f k x.1 x.2.1 x.2.2⟩
def spec_unAll.pl0 : Refl.Pn G (Refl.PT G (spec_unAll.e 0).ol) := ⟨true, 0, ⟨[(3, .v (.c (.row 25 true))), (4, .v (.c li)), (1, .box 1 0)], [(1, 34, gL5)]⟩, fun k x => spec_unAll.l0 k x.1 x.2.1 x.2.2.1 x.2.2.2.1 x.2.2.2.2⟩
theorem spec_unAll.ok (k : Nat) : Refl.EntOK Tryz.prog (spec_unAll.e k) := Refl.ent_ok 1000000 k GC (fun k => []) (fun k => trivial) Tryz.func73 (by kernel_rfl) [spec_unAll.pl0] (ps := [spec_unAll.pl0]) (by kernel_rfl) ⟨⟨fun x => by kernel_rfl, fun k x => by kernel_rfl⟩, trivial⟩ (fun x => by kernel_rfl)

/-! ### spec_unItems: function 76 -/

def spec_unItems.l0 : Nat → List ByteArray → List ByteArray → Int → Int → Option (Bool)
  | 0, _, _, _, _ => none
  | k + 1, x0, x5, x6, x7 => if x7 < x6 then (if 0 ≤ x7 then (if x7 < (x5.length : Int) then ((spec_enGloss.f k (rdOf ByteArray.empty x5 x7)).bind fun t285 => (if t285 = true then (spec_unItems.l0 k x0 x5 x6 (wrap64 (x7 + 1))) else (some false))) else (none)) else (none)) else (some (decide ((x0.length : Int) ≤ 20)))

def spec_unItems.f (k : Nat) (l0 : List ByteArray) : Option (Bool) := spec_unItems.l0 k l0 l0 (l0.length : Int) 0

theorem spec_unItems.mono_l : ∀ k, (∀ y0 y1 y2 y3, LeO (spec_unItems.l0 k y0 y1 y2 y3) (spec_unItems.l0 (k + 1) y0 y1 y2 y3))
  | 0 => fun _ _ _ _ r h => by simp [spec_unItems.l0] at h
  | k + 1 => by
    have ih0 := spec_unItems.mono_l k
    · intro y0 y1 y2 y3
      unfold spec_unItems.l0
      repeat' first
      | (with_reducible exact ih0 _ _ _ _)
      | (with_reducible exact spec_enGloss.mono _ _)
      | (with_reducible exact LeO.refl _)
      | (with_reducible exact LeO.none _)
      | (with_reducible refine LeO.ite ?_ ?_)
      | (with_reducible refine LeO.bind ?_ (fun _ => ?_))
      | exact ih0 _ _ _ _
      | exact spec_enGloss.mono _ _
      | exact LeO.none _
      | refine LeO.ite ?_ ?_
      | refine LeO.bind ?_ (fun _ => ?_)

theorem spec_unItems.mono : ∀ a0 k, LeO (spec_unItems.f k a0) (spec_unItems.f (k + 1) a0) := by
  intro a0 k
  have ih0 := spec_unItems.mono_l k
  unfold spec_unItems.f
  repeat' first
      | (with_reducible exact ih0 _ _ _ _)
      | (with_reducible exact spec_enGloss.mono _ _)
      | (with_reducible exact LeO.refl _)
      | (with_reducible exact LeO.none _)
      | (with_reducible refine LeO.ite ?_ ?_)
      | (with_reducible refine LeO.bind ?_ (fun _ => ?_))
      | exact ih0 _ _ _ _
      | exact spec_enGloss.mono _ _
      | exact LeO.none _
      | refine LeO.ite ?_ ?_
      | refine LeO.bind ?_ (fun _ => ?_)

def spec_unItems.e (k : Nat) : Refl.Ent G := ⟨76, [(.c (.row 9 false))], .one (.c .bool), fun x => spec_unItems.f k x⟩
def spec_unItems.pl0 : Refl.Pn G (Refl.PT G (spec_unItems.e 0).ol) := ⟨true, 0, ⟨[(0, .v (.c (.row 9 false))), (5, .v (.c (.row 9 false))), (6, .v (.c li)), (7, .v (.c li)), (2, .k (Value.bool false))], []⟩, fun k x => spec_unItems.l0 k x.1 x.2.1 x.2.2.1 x.2.2.2⟩
theorem spec_unItems.ok (k : Nat) : Refl.EntOK Tryz.prog (spec_unItems.e k) := Refl.ent_ok 1000000 k GC (fun k => [spec_enGloss.e k]) (fun k => ⟨spec_enGloss.ok k, trivial⟩) Tryz.func76 (by kernel_rfl) [spec_unItems.pl0] (ps := [spec_unItems.pl0]) (by kernel_rfl) ⟨⟨fun x => by kernel_rfl, fun k x => by kernel_rfl⟩, trivial⟩ (fun x => by kernel_rfl)

/-! ### spec_unGood: function 55 -/

def spec_unGood.j0 : Nat → Bool → List ByteArray → List (S25) → List (S25) → Option (Bool)
  | 0, _, _, _, _ => none
  | k + 1, x18, x287000, x287001, x287002 => if x18 = true then (some false) else ((spec_unAll.f k x287000 x287001 x287002).bind fun t288 => ((spec_unAfter.f k x287000 t288).bind fun bt291 => (some bt291.2)))

def spec_unGood.f (k : Nat) (l0_0 : List ByteArray) (l0_1 : List (S25)) (l0_2 : List (S25)) : Option (Bool) := (spec_unItems.f k l0_0).bind fun t287 => (if t287 = true then (spec_unGood.j0 k (decide ((wrap64 ((l0_1.length : Int) + (l0_2.length : Int))) > 30)) l0_0 l0_1 l0_2) else (spec_unGood.j0 k true l0_0 l0_1 l0_2))

theorem spec_unGood.mono_l : ∀ k, (∀ y0 y1 y2 y3, LeO (spec_unGood.j0 k y0 y1 y2 y3) (spec_unGood.j0 (k + 1) y0 y1 y2 y3))
  | 0 => fun _ _ _ _ r h => by simp [spec_unGood.j0] at h
  | k + 1 => by
    have ih0 := spec_unGood.mono_l k
    · intro y0 y1 y2 y3
      unfold spec_unGood.j0
      repeat' first
      | (with_reducible exact ih0 _ _ _ _)
      | (with_reducible exact spec_unAfter.mono _ _ _)
      | (with_reducible exact spec_unAll.mono _ _ _ _)
      | (with_reducible exact spec_unItems.mono _ _)
      | (with_reducible exact LeO.refl _)
      | (with_reducible exact LeO.none _)
      | (with_reducible refine LeO.ite ?_ ?_)
      | (with_reducible refine LeO.bind ?_ (fun _ => ?_))
      | exact ih0 _ _ _ _
      | exact spec_unAfter.mono _ _ _
      | exact spec_unAll.mono _ _ _ _
      | exact spec_unItems.mono _ _
      | exact LeO.none _
      | refine LeO.ite ?_ ?_
      | refine LeO.bind ?_ (fun _ => ?_)

theorem spec_unGood.mono : ∀ a0 a1 a2 k, LeO (spec_unGood.f k a0 a1 a2) (spec_unGood.f (k + 1) a0 a1 a2) := by
  intro a0 a1 a2 k
  have ih0 := spec_unGood.mono_l k
  unfold spec_unGood.f
  repeat' first
      | (with_reducible exact ih0 _ _ _ _)
      | (with_reducible exact spec_unAfter.mono _ _ _)
      | (with_reducible exact spec_unAll.mono _ _ _ _)
      | (with_reducible exact spec_unItems.mono _ _)
      | (with_reducible exact LeO.refl _)
      | (with_reducible exact LeO.none _)
      | (with_reducible refine LeO.ite ?_ ?_)
      | (with_reducible refine LeO.bind ?_ (fun _ => ?_))
      | exact ih0 _ _ _ _
      | exact spec_unAfter.mono _ _ _
      | exact spec_unAll.mono _ _ _ _
      | exact spec_unItems.mono _ _
      | exact LeO.none _
      | refine LeO.ite ?_ ?_
      | refine LeO.bind ?_ (fun _ => ?_)

def spec_unGood.e (k : Nat) : Refl.Ent G := ⟨55, [(.agg gL4)], .one (.c .bool), fun x => spec_unGood.f k x.1 x.2.1 x.2.2⟩
def spec_unGood.pj0 : Refl.Pn G (Refl.PT G (spec_unGood.e 0).ol) := ⟨false, 1000001, ⟨[(18, .v (.c .bool)), (1, .box 1 0), (2, .k (Value.bool false))], [(1, 34, gL5)]⟩, fun k x => spec_unGood.j0 k x.1 x.2.1 x.2.2.1 x.2.2.2⟩
theorem spec_unGood.ok (k : Nat) : Refl.EntOK Tryz.prog (spec_unGood.e k) := Refl.ent_ok 1000000 k GC (fun k => [spec_unItems.e k, spec_unAll.e k, spec_unAfter.e k]) (fun k => ⟨spec_unItems.ok k, spec_unAll.ok k, spec_unAfter.ok k, trivial⟩) Tryz.func55 (by kernel_rfl) [spec_unGood.pj0] (ps := [spec_unGood.pj0]) (by kernel_rfl) ⟨⟨fun x => by kernel_rfl, fun k x => by kernel_rfl⟩, trivial⟩ (fun x => by kernel_rfl)

/-! ### spec_unNow: function 59 -/

def spec_unNow.f (k : Nat) (l0_0 : List ByteArray) (l0_1 : List (S25)) (l0_2 : List (S25)) : Option (List ByteArray) := (spec_unAfter.f k l0_0 l0_1).bind fun bt296 => (some bt296.1)

theorem spec_unNow.mono : ∀ a0 a1 a2 k, LeO (spec_unNow.f k a0 a1 a2) (spec_unNow.f (k + 1) a0 a1 a2) := by
  intro a0 a1 a2 k
  unfold spec_unNow.f
  repeat' first
      | (with_reducible exact spec_unAfter.mono _ _ _)
      | (with_reducible exact LeO.refl _)
      | (with_reducible exact LeO.none _)
      | (with_reducible refine LeO.ite ?_ ?_)
      | (with_reducible refine LeO.bind ?_ (fun _ => ?_))
      | exact spec_unAfter.mono _ _ _
      | exact LeO.none _
      | refine LeO.ite ?_ ?_
      | refine LeO.bind ?_ (fun _ => ?_)

def spec_unNow.e (k : Nat) : Refl.Ent G := ⟨59, [(.agg gL4)], .one (.c (.row 9 true)), fun x => spec_unNow.f k x.1 x.2.1 x.2.2⟩
theorem spec_unNow.ok (k : Nat) : Refl.EntOK Tryz.prog (spec_unNow.e k) := Refl.ent_ok 1000000 k GC (fun k => [spec_unAfter.e k]) (fun k => ⟨spec_unAfter.ok k, trivial⟩) Tryz.func59 (by kernel_rfl) [] (ps := []) (by kernel_rfl) trivial (fun x => by kernel_rfl)

/-! ### spec_unAt: function 56 -/

def spec_unAt.f (k : Nat) (l0_0 : List ByteArray) (l0_1 : List (S25)) (l0_2 : List (S25)) (a1 : Int) : Option (ByteArray × Bool) := (spec_unNow.f k l0_0 l0_1 l0_2).bind fun t301 => ((spec_l1In.f a1 0 (wrap64 ((t301.length : Int) - 1))).bind fun t304 => (if t304 = true then (if 0 ≤ a1 then (if a1 < (t301.length : Int) then (some (rdOf ByteArray.empty t301 a1, true)) else (none)) else (none)) else (some ((⟨#[]⟩ : ByteArray), false))))

theorem spec_unAt.mono : ∀ a0 a1 a2 a3 k, LeO (spec_unAt.f k a0 a1 a2 a3) (spec_unAt.f (k + 1) a0 a1 a2 a3) := by
  intro a0 a1 a2 a3 k
  unfold spec_unAt.f
  repeat' first
      | (with_reducible exact spec_unNow.mono _ _ _ _)
      | (with_reducible exact LeO.refl _)
      | (with_reducible exact LeO.none _)
      | (with_reducible refine LeO.ite ?_ ?_)
      | (with_reducible refine LeO.bind ?_ (fun _ => ?_))
      | exact spec_unNow.mono _ _ _ _
      | exact LeO.none _
      | refine LeO.ite ?_ ?_
      | refine LeO.bind ?_ (fun _ => ?_)

def spec_unAt.e (k : Nat) : Refl.Ent G := ⟨56, [(.agg gL4), (.c li)], .tup [(.c .str), (.c .bool)], fun x => spec_unAt.f k x.1 x.2.1 x.2.2.1 x.2.2.2⟩
theorem spec_unAt.ok (k : Nat) : Refl.EntOK Tryz.prog (spec_unAt.e k) := Refl.ent_ok 1000000 k GC (fun k => [spec_unNow.e k, spec_l1In.e k]) (fun k => ⟨spec_unNow.ok k, spec_l1In.ok k, trivial⟩) Tryz.func56 (by kernel_rfl) [] (ps := []) (by kernel_rfl) trivial (fun x => by kernel_rfl)

/-! ### spec_unDesk: function 71 -/

def spec_unDesk.f (l0_0 : List ByteArray) (l0_1 : List (S25)) (l0_2 : List (S25)) (l1 : List (S25)) (l2 : List (S25)) : Option (List ByteArray × (List (S25)) × (List (S25))) := (some (([] : List ByteArray) : List ByteArray)).bind fun y308 => (if Refl.appLen y308 l0_0 < 8796093022208 then ((some (([] : List (S25)) : List (S25))).bind fun y314 => (if Refl.appLen y314 l1 < 2932031007402 then ((some (([] : List (S25)) : List (S25))).bind fun y320 => (if Refl.appLen y320 l2 < 2932031007402 then (some ((y308 ++ l0_0), (y314 ++ l1), (y320 ++ l2))) else (none))) else (none))) else (none))

def spec_unDesk.e (k : Nat) : Refl.Ent G := ⟨71, [(.agg gL4), (.c (.row 25 false)), (.c (.row 25 false))], .one (.agg gL6), fun x => spec_unDesk.f x.1 x.2.1 x.2.2.1 x.2.2.2.1 x.2.2.2.2⟩
theorem spec_unDesk.ok (k : Nat) : Refl.EntOK Tryz.prog (spec_unDesk.e k) := Refl.ent_ok 1000000 k GC (fun k => []) (fun k => trivial) Tryz.func71 (by kernel_rfl) [] (ps := []) (by kernel_rfl) trivial (fun x => by kernel_rfl)

/-! ### spec_unDo: function 57 -/

def spec_unDo.f (k : Nat) (l0_0 : List ByteArray) (l0_1 : List (S25)) (l0_2 : List (S25)) (a1_0 : Int) (a1_1 : Int) (a1_2 : ByteArray) (a1_3 : ByteArray) : Option (List ByteArray × (List (S25)) × (List (S25)) × Bool) := (spec_unNow.f k l0_0 l0_1 l0_2).bind fun t329 => ((spec_unMake.f k t329 a1_0 a1_1 a1_2 a1_3).bind fun bt332 => (if bt332.2 = true then (if (l0_1.length : Int) = 30 then (some (([] : List ByteArray), ([] : List (S25)), ([] : List (S25)), false)) else ((some (([] : List (S25)) : List (S25))).bind fun y336 => (if Refl.appLen y336 l0_1 < 2932031007402 then ((some (y336 ++ l0_1 : List (S25))).bind fun y339 => (if y339.length < 2932031007402 then ((spec_unDesk.f l0_0 l0_1 l0_2 (y339 ++ [(⟨a1_0, a1_1, a1_2, a1_3⟩ : S25)]) ([] : List (S25))).bind fun bt345 => (some (bt345.1, bt345.2.1, bt345.2.2, true))) else (none))) else (none)))) else (some (([] : List ByteArray), ([] : List (S25)), ([] : List (S25)), false))))

theorem spec_unDo.mono : ∀ a0 a1 a2 a3 a4 a5 a6 k, LeO (spec_unDo.f k a0 a1 a2 a3 a4 a5 a6) (spec_unDo.f (k + 1) a0 a1 a2 a3 a4 a5 a6) := by
  intro a0 a1 a2 a3 a4 a5 a6 k
  unfold spec_unDo.f
  repeat' first
      | (with_reducible exact spec_unMake.mono _ _ _ _ _ _)
      | (with_reducible exact spec_unNow.mono _ _ _ _)
      | (with_reducible exact LeO.refl _)
      | (with_reducible exact LeO.none _)
      | (with_reducible refine LeO.ite ?_ ?_)
      | (with_reducible refine LeO.bind ?_ (fun _ => ?_))
      | exact spec_unMake.mono _ _ _ _ _ _
      | exact spec_unNow.mono _ _ _ _
      | exact LeO.none _
      | refine LeO.ite ?_ ?_
      | refine LeO.bind ?_ (fun _ => ?_)

def spec_unDo.e (k : Nat) : Refl.Ent G := ⟨57, [(.agg gL4), (.agg [li, li, .str, .str])], .tup [(.agg gL6), (.c .bool)], fun x => spec_unDo.f k x.1 x.2.1 x.2.2.1 x.2.2.2.1 x.2.2.2.2.1 x.2.2.2.2.2.1 x.2.2.2.2.2.2⟩
theorem spec_unDo.ok (k : Nat) : Refl.EntOK Tryz.prog (spec_unDo.e k) := Refl.ent_ok 1000000 k GC (fun k => [spec_unNow.e k, spec_unMake.e k, spec_unDesk.e k]) (fun k => ⟨spec_unNow.ok k, spec_unMake.ok k, spec_unDesk.ok k, trivial⟩) Tryz.func57 (by kernel_rfl) [] (ps := []) (by kernel_rfl) trivial (fun x => by kernel_rfl)

/-! ### spec_DeleteItem: function 13 -/

def spec_DeleteItem.f (k : Nat) (l0_0 : List ByteArray) (l0_1 : List (S25)) (l0_2 : List (S25)) (a1 : Int) : Option (List ByteArray × (List (S25)) × (List (S25)) × Bool) := (spec_unGood.f k l0_0 l0_1 l0_2).bind fun t356 => (if t356 = true then ((spec_unAt.f k l0_0 l0_1 l0_2 a1).bind fun bt357 => (if bt357.2 = true then ((spec_unDo.f k l0_0 l0_1 l0_2 1 a1 (⟨#[]⟩ : ByteArray) bt357.1).bind fun bt359 => (some (bt359.1, bt359.2.1, bt359.2.2.1, bt359.2.2.2))) else (some (([] : List ByteArray), ([] : List (S25)), ([] : List (S25)), false)))) else (some (([] : List ByteArray), ([] : List (S25)), ([] : List (S25)), false)))

theorem spec_DeleteItem.mono : ∀ a0 a1 a2 a3 k, LeO (spec_DeleteItem.f k a0 a1 a2 a3) (spec_DeleteItem.f (k + 1) a0 a1 a2 a3) := by
  intro a0 a1 a2 a3 k
  unfold spec_DeleteItem.f
  repeat' first
      | (with_reducible exact spec_unAt.mono _ _ _ _ _)
      | (with_reducible exact spec_unDo.mono _ _ _ _ _ _ _ _)
      | (with_reducible exact spec_unGood.mono _ _ _ _)
      | (with_reducible exact LeO.refl _)
      | (with_reducible exact LeO.none _)
      | (with_reducible refine LeO.ite ?_ ?_)
      | (with_reducible refine LeO.bind ?_ (fun _ => ?_))
      | exact spec_unAt.mono _ _ _ _ _
      | exact spec_unDo.mono _ _ _ _ _ _ _ _
      | exact spec_unGood.mono _ _ _ _
      | exact LeO.none _
      | refine LeO.ite ?_ ?_
      | refine LeO.bind ?_ (fun _ => ?_)

def spec_DeleteItem.e (k : Nat) : Refl.Ent G := ⟨13, [(.agg gL4), (.c li)], .tup [(.agg gL6), (.c .bool)], fun x => spec_DeleteItem.f k x.1 x.2.1 x.2.2.1 x.2.2.2⟩
theorem spec_DeleteItem.ok (k : Nat) : Refl.EntOK Tryz.prog (spec_DeleteItem.e k) := Refl.ent_ok 1000000 k GC (fun k => [spec_unGood.e k, spec_unAt.e k, spec_unDo.e k]) (fun k => ⟨spec_unGood.ok k, spec_unAt.ok k, spec_unDo.ok k, trivial⟩) Tryz.func13 (by kernel_rfl) [] (ps := []) (by kernel_rfl) trivial (fun x => by kernel_rfl)

/-! ### spec_ReplaceItem: function 21 -/

def spec_ReplaceItem.j0 : Nat → Int → ByteArray → Bool → List ByteArray → List (S25) → List (S25) → Option (List ByteArray × (List (S25)) × (List (S25)) × Bool)
  | 0, _, _, _, _, _, _ => none
  | k + 1, x1, x2, x17, x370000, x370001, x370002 => if x17 = true then (some (([] : List ByteArray), ([] : List (S25)), ([] : List (S25)), false)) else ((spec_unAt.f k x370000 x370001 x370002 x1).bind fun bt373 => (if bt373.2 = true then ((spec_unDo.f k x370000 x370001 x370002 2 x1 x2 bt373.1).bind fun bt375 => (some (bt375.1, bt375.2.1, bt375.2.2.1, bt375.2.2.2))) else (some (([] : List ByteArray), ([] : List (S25)), ([] : List (S25)), false))))

def spec_ReplaceItem.f (k : Nat) (l0_0 : List ByteArray) (l0_1 : List (S25)) (l0_2 : List (S25)) (a1 : Int) (a2 : ByteArray) : Option (List ByteArray × (List (S25)) × (List (S25)) × Bool) := (spec_unGood.f k l0_0 l0_1 l0_2).bind fun t371 => (if t371 = true then ((spec_enGloss.f k a2).bind fun t372 => (spec_ReplaceItem.j0 k a1 a2 (!t372) l0_0 l0_1 l0_2)) else (spec_ReplaceItem.j0 k a1 a2 true l0_0 l0_1 l0_2))

theorem spec_ReplaceItem.mono_l : ∀ k, (∀ y0 y1 y2 y3 y4 y5, LeO (spec_ReplaceItem.j0 k y0 y1 y2 y3 y4 y5) (spec_ReplaceItem.j0 (k + 1) y0 y1 y2 y3 y4 y5))
  | 0 => fun _ _ _ _ _ _ r h => by simp [spec_ReplaceItem.j0] at h
  | k + 1 => by
    have ih0 := spec_ReplaceItem.mono_l k
    · intro y0 y1 y2 y3 y4 y5
      unfold spec_ReplaceItem.j0
      repeat' first
      | (with_reducible exact ih0 _ _ _ _ _ _)
      | (with_reducible exact spec_enGloss.mono _ _)
      | (with_reducible exact spec_unAt.mono _ _ _ _ _)
      | (with_reducible exact spec_unDo.mono _ _ _ _ _ _ _ _)
      | (with_reducible exact spec_unGood.mono _ _ _ _)
      | (with_reducible exact LeO.refl _)
      | (with_reducible exact LeO.none _)
      | (with_reducible refine LeO.ite ?_ ?_)
      | (with_reducible refine LeO.bind ?_ (fun _ => ?_))
      | exact ih0 _ _ _ _ _ _
      | exact spec_enGloss.mono _ _
      | exact spec_unAt.mono _ _ _ _ _
      | exact spec_unDo.mono _ _ _ _ _ _ _ _
      | exact spec_unGood.mono _ _ _ _
      | exact LeO.none _
      | refine LeO.ite ?_ ?_
      | refine LeO.bind ?_ (fun _ => ?_)

theorem spec_ReplaceItem.mono : ∀ a0 a1 a2 a3 a4 k, LeO (spec_ReplaceItem.f k a0 a1 a2 a3 a4) (spec_ReplaceItem.f (k + 1) a0 a1 a2 a3 a4) := by
  intro a0 a1 a2 a3 a4 k
  have ih0 := spec_ReplaceItem.mono_l k
  unfold spec_ReplaceItem.f
  repeat' first
      | (with_reducible exact ih0 _ _ _ _ _ _)
      | (with_reducible exact spec_enGloss.mono _ _)
      | (with_reducible exact spec_unAt.mono _ _ _ _ _)
      | (with_reducible exact spec_unDo.mono _ _ _ _ _ _ _ _)
      | (with_reducible exact spec_unGood.mono _ _ _ _)
      | (with_reducible exact LeO.refl _)
      | (with_reducible exact LeO.none _)
      | (with_reducible refine LeO.ite ?_ ?_)
      | (with_reducible refine LeO.bind ?_ (fun _ => ?_))
      | exact ih0 _ _ _ _ _ _
      | exact spec_enGloss.mono _ _
      | exact spec_unAt.mono _ _ _ _ _
      | exact spec_unDo.mono _ _ _ _ _ _ _ _
      | exact spec_unGood.mono _ _ _ _
      | exact LeO.none _
      | refine LeO.ite ?_ ?_
      | refine LeO.bind ?_ (fun _ => ?_)

def spec_ReplaceItem.e (k : Nat) : Refl.Ent G := ⟨21, [(.agg gL4), (.c li), (.c .str)], .tup [(.agg gL6), (.c .bool)], fun x => spec_ReplaceItem.f k x.1 x.2.1 x.2.2.1 x.2.2.2.1 x.2.2.2.2⟩
def spec_ReplaceItem.pj0 : Refl.Pn G (Refl.PT G (spec_ReplaceItem.e 0).ol) := ⟨false, 1000001, ⟨[(1, .v (.c li)), (2, .v (.c .str)), (17, .v (.c .bool)), (3, .box 3 0), (6, .box 6 0), (7, .k (Value.bool false))], [(3, 34, gL5), (6, 34, gL7)]⟩, fun k x => spec_ReplaceItem.j0 k x.1 x.2.1 x.2.2.1 x.2.2.2.1 x.2.2.2.2.1 x.2.2.2.2.2⟩
theorem spec_ReplaceItem.ok (k : Nat) : Refl.EntOK Tryz.prog (spec_ReplaceItem.e k) := Refl.ent_ok 1000000 k GC (fun k => [spec_unGood.e k, spec_enGloss.e k, spec_unAt.e k, spec_unDo.e k]) (fun k => ⟨spec_unGood.ok k, spec_enGloss.ok k, spec_unAt.ok k, spec_unDo.ok k, trivial⟩) Tryz.func21 (by kernel_rfl) [spec_ReplaceItem.pj0] (ps := [spec_ReplaceItem.pj0]) (by kernel_rfl) ⟨⟨fun x => by kernel_rfl, fun k x => by kernel_rfl⟩, trivial⟩ (fun x => by kernel_rfl)

/-! ### spec_StartDesk: function 30 -/

def spec_StartDesk.f (k : Nat) (l0 : List ByteArray) : Option (List ByteArray × (List (S25)) × (List (S25)) × Bool) := (spec_unItems.f k l0).bind fun t386 => (if t386 = true then ((some (([] : List ByteArray) : List ByteArray)).bind fun y387 => (if Refl.appLen y387 l0 < 8796093022208 then (some ((y387 ++ l0), ([] : List (S25)), ([] : List (S25)), true)) else (none))) else (some (([] : List ByteArray), ([] : List (S25)), ([] : List (S25)), false)))

theorem spec_StartDesk.mono : ∀ a0 k, LeO (spec_StartDesk.f k a0) (spec_StartDesk.f (k + 1) a0) := by
  intro a0 k
  unfold spec_StartDesk.f
  repeat' first
      | (with_reducible exact spec_unItems.mono _ _)
      | (with_reducible exact LeO.refl _)
      | (with_reducible exact LeO.none _)
      | (with_reducible refine LeO.ite ?_ ?_)
      | (with_reducible refine LeO.bind ?_ (fun _ => ?_))
      | exact spec_unItems.mono _ _
      | exact LeO.none _
      | refine LeO.ite ?_ ?_
      | refine LeO.bind ?_ (fun _ => ?_)

def spec_StartDesk.e (k : Nat) : Refl.Ent G := ⟨30, [(.c (.row 9 false))], .tup [(.agg gL6), (.c .bool)], fun x => spec_StartDesk.f k x⟩
theorem spec_StartDesk.ok (k : Nat) : Refl.EntOK Tryz.prog (spec_StartDesk.e k) := Refl.ent_ok 1000000 k GC (fun k => [spec_unItems.e k]) (fun k => ⟨spec_unItems.ok k, trivial⟩) Tryz.func30 (by kernel_rfl) [] (ps := []) (by kernel_rfl) trivial (fun x => by kernel_rfl)

/-! ### spec_l1Cur_one: function 92 -/

def spec_l1Cur_one.f (s0_0 : List Int) (s0_1 : Int) (s0_2 : Int) (a1 : Int) : Option (Bool × List Int × Int × Int) := (spec_l1Cur_pick.f s0_0 s0_1 s0_2 a1).bind fun bt393 => (some ((bt393.1 == 0), bt393.2.1, bt393.2.2.1, bt393.2.2.2))

def spec_l1Cur_one.e (k : Nat) : Refl.Ent G := ⟨92, [(.wr 1000000 66 gL0), (.c li)], .one (.c .bool), fun x => spec_l1Cur_one.f x.1 x.2.1 x.2.2.1 x.2.2.2⟩
theorem spec_l1Cur_one.ok (k : Nat) : Refl.EntOK Tryz.prog (spec_l1Cur_one.e k) := Refl.ent_ok 1000000 k GC (fun k => [spec_l1Cur_pick.e k]) (fun k => ⟨spec_l1Cur_pick.ok k, trivial⟩) Tryz.func92 (by kernel_rfl) [] (ps := []) (by kernel_rfl) trivial (fun x => by kernel_rfl)

/-! ### spec_l1Cur_items: function 74 -/

mutual
def spec_l1Cur_items.j0 : Nat → List ByteArray → Int → List Int → Int → Int → Option (List ByteArray × List Int × Int × Int)
  | 0, _, _, _, _, _ => none
  | k + 1, x3, x4, x1000, x1001, x1002 => spec_l1Cur_items.l0 k x3 x4 x1000 x1001 x1002
def spec_l1Cur_items.l0 : Nat → List ByteArray → Int → List Int → Int → Int → Option (List ByteArray × List Int × Int × Int)
  | 0, _, _, _, _, _ => none
  | k + 1, x3, x4, x1000, x1001, x1002 => if (x3.length : Int) < x4 then ((spec_l1Cur_gloss.f x1000 x1001 x1002).bind fun bt409 => (if x3.length < 8796093022208 then (spec_l1Cur_items.l0 k (x3 ++ [bt409.1]) x4 bt409.2.1 bt409.2.2.1 bt409.2.2.2) else (none))) else (if x4 > 0 then ((spec_l1Cur_one.f x1000 x1001 x1002 24).bind fun bt416 => (spec_l1Cur_items.j2 k x3 x4 bt416.1 bt416.2.1 bt416.2.2.1 bt416.2.2.2)) else (spec_l1Cur_items.j2 k x3 x4 false x1000 x1001 x1002))
def spec_l1Cur_items.j2 : Nat → List ByteArray → Int → Bool → List Int → Int → Int → Option (List ByteArray × List Int × Int × Int)
  | 0, _, _, _, _, _, _ => none
  | k + 1, x3, x4, x26, x1000, x1001, x1002 => if x26 = true then ((spec_l1Cur_pick.f x1000 x1001 x1002 x4).bind fun bt420 => ((spec_l1Cur_anyGloss.f bt420.2.1 bt420.2.2.1 bt420.2.2.2).bind fun bt424 => (if 0 ≤ bt420.1 then (if bt420.1 < (x3.length : Int) then (some ((x3.set (bt420.1 : Int).toNat bt424.1), bt424.2.1, bt424.2.2.1, bt424.2.2.2)) else (none)) else (none)))) else (some (x3, x1000, x1001, x1002))
end

def spec_l1Cur_items.f (k : Nat) (s0_0 : List Int) (s0_1 : Int) (s0_2 : Int) : Option (List ByteArray × List Int × Int × Int) := (spec_l1Cur_pick.f s0_0 s0_1 s0_2 5).bind fun bt397 => ((spec_l1Cur_one.f bt397.2.1 bt397.2.2.1 bt397.2.2.2 12).bind fun bt401 => (if bt401.1 = true then ((spec_l1Cur_pick.f bt401.2.1 bt401.2.2.1 bt401.2.2.2 2).bind fun bt405 => (spec_l1Cur_items.l0 k ([] : List ByteArray) (wrap64 (20 + bt405.1)) bt405.2.1 bt405.2.2.1 bt405.2.2.2)) else (spec_l1Cur_items.l0 k ([] : List ByteArray) bt397.1 bt401.2.1 bt401.2.2.1 bt401.2.2.2)))

theorem spec_l1Cur_items.mono_l : ∀ k, (∀ y0 y1 y2 y3 y4, LeO (spec_l1Cur_items.j0 k y0 y1 y2 y3 y4) (spec_l1Cur_items.j0 (k + 1) y0 y1 y2 y3 y4)) ∧ (∀ y0 y1 y2 y3 y4, LeO (spec_l1Cur_items.l0 k y0 y1 y2 y3 y4) (spec_l1Cur_items.l0 (k + 1) y0 y1 y2 y3 y4)) ∧ (∀ y0 y1 y2 y3 y4 y5, LeO (spec_l1Cur_items.j2 k y0 y1 y2 y3 y4 y5) (spec_l1Cur_items.j2 (k + 1) y0 y1 y2 y3 y4 y5))
  | 0 => ⟨fun _ _ _ _ _ r h => by simp [spec_l1Cur_items.j0] at h, fun _ _ _ _ _ r h => by simp [spec_l1Cur_items.l0] at h, fun _ _ _ _ _ _ r h => by simp [spec_l1Cur_items.j2] at h⟩
  | k + 1 => by
    obtain ⟨ih0, ih1, ih2⟩ := spec_l1Cur_items.mono_l k
    refine ⟨?_, ?_, ?_⟩
    · intro y0 y1 y2 y3 y4
      unfold spec_l1Cur_items.j0
      repeat' first
      | (with_reducible exact ih0 _ _ _ _ _)
      | (with_reducible exact ih1 _ _ _ _ _)
      | (with_reducible exact ih2 _ _ _ _ _ _)
      | (with_reducible exact LeO.refl _)
      | (with_reducible exact LeO.none _)
      | (with_reducible refine LeO.ite ?_ ?_)
      | (with_reducible refine LeO.bind ?_ (fun _ => ?_))
      | exact ih0 _ _ _ _ _
      | exact ih1 _ _ _ _ _
      | exact ih2 _ _ _ _ _ _
      | exact LeO.none _
      | refine LeO.ite ?_ ?_
      | refine LeO.bind ?_ (fun _ => ?_)
    · intro y0 y1 y2 y3 y4
      unfold spec_l1Cur_items.l0
      repeat' first
      | (with_reducible exact ih0 _ _ _ _ _)
      | (with_reducible exact ih1 _ _ _ _ _)
      | (with_reducible exact ih2 _ _ _ _ _ _)
      | (with_reducible exact LeO.refl _)
      | (with_reducible exact LeO.none _)
      | (with_reducible refine LeO.ite ?_ ?_)
      | (with_reducible refine LeO.bind ?_ (fun _ => ?_))
      | exact ih0 _ _ _ _ _
      | exact ih1 _ _ _ _ _
      | exact ih2 _ _ _ _ _ _
      | exact LeO.none _
      | refine LeO.ite ?_ ?_
      | refine LeO.bind ?_ (fun _ => ?_)
    · intro y0 y1 y2 y3 y4 y5
      unfold spec_l1Cur_items.j2
      repeat' first
      | (with_reducible exact ih0 _ _ _ _ _)
      | (with_reducible exact ih1 _ _ _ _ _)
      | (with_reducible exact ih2 _ _ _ _ _ _)
      | (with_reducible exact LeO.refl _)
      | (with_reducible exact LeO.none _)
      | (with_reducible refine LeO.ite ?_ ?_)
      | (with_reducible refine LeO.bind ?_ (fun _ => ?_))
      | exact ih0 _ _ _ _ _
      | exact ih1 _ _ _ _ _
      | exact ih2 _ _ _ _ _ _
      | exact LeO.none _
      | refine LeO.ite ?_ ?_
      | refine LeO.bind ?_ (fun _ => ?_)

theorem spec_l1Cur_items.mono : ∀ a0 a1 a2 k, LeO (spec_l1Cur_items.f k a0 a1 a2) (spec_l1Cur_items.f (k + 1) a0 a1 a2) := by
  intro a0 a1 a2 k
  obtain ⟨ih0, ih1, ih2⟩ := spec_l1Cur_items.mono_l k
  unfold spec_l1Cur_items.f
  repeat' first
      | (with_reducible exact ih0 _ _ _ _ _)
      | (with_reducible exact ih1 _ _ _ _ _)
      | (with_reducible exact ih2 _ _ _ _ _ _)
      | (with_reducible exact LeO.refl _)
      | (with_reducible exact LeO.none _)
      | (with_reducible refine LeO.ite ?_ ?_)
      | (with_reducible refine LeO.bind ?_ (fun _ => ?_))
      | exact ih0 _ _ _ _ _
      | exact ih1 _ _ _ _ _
      | exact ih2 _ _ _ _ _ _
      | exact LeO.none _
      | refine LeO.ite ?_ ?_
      | refine LeO.bind ?_ (fun _ => ?_)

def spec_l1Cur_items.e (k : Nat) : Refl.Ent G := ⟨74, [(.wr 1000000 66 gL0)], .one (.c (.row 9 false)), fun x => spec_l1Cur_items.f k x.1 x.2.1 x.2.2⟩
def spec_l1Cur_items.pl0 : Refl.Pn G (Refl.PT G (spec_l1Cur_items.e 0).ol) := ⟨true, 0, ⟨[(3, .v (.c (.own 9))), (4, .v (.c li)), (0, .box 1000000 0)], [(1000000, 66, gL1)]⟩, fun k x => spec_l1Cur_items.l0 k x.1 x.2.1 x.2.2.1 x.2.2.2.1 x.2.2.2.2⟩
def spec_l1Cur_items.pj2 : Refl.Pn G (Refl.PT G (spec_l1Cur_items.e 0).ol) := ⟨false, 1000007, ⟨[(3, .v (.c (.own 9))), (4, .v (.c li)), (26, .v (.c .bool)), (0, .box 1000000 0)], [(1000000, 66, gL1)]⟩, fun k x => spec_l1Cur_items.j2 k x.1 x.2.1 x.2.2.1 x.2.2.2.1 x.2.2.2.2.1 x.2.2.2.2.2⟩
theorem spec_l1Cur_items.ok (k : Nat) : Refl.EntOK Tryz.prog (spec_l1Cur_items.e k) := Refl.ent_ok 1000000 k GC (fun k => [spec_l1Cur_pick.e k, spec_l1Cur_one.e k, spec_l1Cur_gloss.e k, spec_l1Cur_anyGloss.e k]) (fun k => ⟨spec_l1Cur_pick.ok k, spec_l1Cur_one.ok k, spec_l1Cur_gloss.ok k, spec_l1Cur_anyGloss.ok k, trivial⟩) Tryz.func74 (by kernel_rfl) [spec_l1Cur_items.pl0, spec_l1Cur_items.pj2] (ps := [spec_l1Cur_items.pl0, spec_l1Cur_items.pj2]) (by kernel_rfl) ⟨⟨fun x => by kernel_rfl, fun k x => by kernel_rfl⟩, ⟨fun x => by kernel_rfl, fun k x => by kernel_rfl⟩, trivial⟩ (fun x => by kernel_rfl)

/-! ### spec_InsertItem: function 98 -/

def spec_InsertItem.f (k : Nat) (l0_0 : List ByteArray) (l0_1 : List (S25)) (l0_2 : List (S25)) (a1 : Int) (a2 : ByteArray) : Option (List ByteArray × (List (S25)) × (List (S25)) × Bool) := (spec_unGood.f k l0_0 l0_1 l0_2).bind fun t431 => (if t431 = true then ((spec_enGloss.f k a2).bind fun t432 => (if t432 = true then ((spec_unDo.f k l0_0 l0_1 l0_2 0 a1 a2 (⟨#[]⟩ : ByteArray)).bind fun bt433 => (some (bt433.1, bt433.2.1, bt433.2.2.1, bt433.2.2.2))) else (some (([] : List ByteArray), ([] : List (S25)), ([] : List (S25)), false)))) else (some (([] : List ByteArray), ([] : List (S25)), ([] : List (S25)), false)))

theorem spec_InsertItem.mono : ∀ a0 a1 a2 a3 a4 k, LeO (spec_InsertItem.f k a0 a1 a2 a3 a4) (spec_InsertItem.f (k + 1) a0 a1 a2 a3 a4) := by
  intro a0 a1 a2 a3 a4 k
  unfold spec_InsertItem.f
  repeat' first
      | (with_reducible exact spec_enGloss.mono _ _)
      | (with_reducible exact spec_unDo.mono _ _ _ _ _ _ _ _)
      | (with_reducible exact spec_unGood.mono _ _ _ _)
      | (with_reducible exact LeO.refl _)
      | (with_reducible exact LeO.none _)
      | (with_reducible refine LeO.ite ?_ ?_)
      | (with_reducible refine LeO.bind ?_ (fun _ => ?_))
      | exact spec_enGloss.mono _ _
      | exact spec_unDo.mono _ _ _ _ _ _ _ _
      | exact spec_unGood.mono _ _ _ _
      | exact LeO.none _
      | refine LeO.ite ?_ ?_
      | refine LeO.bind ?_ (fun _ => ?_)

def spec_InsertItem.e (k : Nat) : Refl.Ent G := ⟨98, [(.agg gL4), (.c li), (.c .str)], .tup [(.agg gL6), (.c .bool)], fun x => spec_InsertItem.f k x.1 x.2.1 x.2.2.1 x.2.2.2.1 x.2.2.2.2⟩
theorem spec_InsertItem.ok (k : Nat) : Refl.EntOK Tryz.prog (spec_InsertItem.e k) := Refl.ent_ok 1000000 k GC (fun k => [spec_unGood.e k, spec_enGloss.e k, spec_unDo.e k]) (fun k => ⟨spec_unGood.ok k, spec_enGloss.ok k, spec_unDo.ok k, trivial⟩) Tryz.func98 (by kernel_rfl) [] (ps := []) (by kernel_rfl) trivial (fun x => by kernel_rfl)

/-! ### spec_UndoEdit: function 99 -/

def spec_UndoEdit.f (k : Nat) (l0_0 : List ByteArray) (l0_1 : List (S25)) (l0_2 : List (S25)) : Option (List ByteArray × (List (S25)) × (List (S25)) × Bool) := (spec_unGood.f k l0_0 l0_1 l0_2).bind fun t445 => (if t445 = true then (if (l0_1.length : Int) = 0 then (some (([] : List ByteArray), ([] : List (S25)), ([] : List (S25)), false)) else (if 0 ≤ (wrap64 ((l0_1.length : Int) - 1)) then (if (wrap64 ((l0_1.length : Int) - 1)) ≤ (l0_1.length : Int) then ((some (([] : List (S25)) : List (S25))).bind fun y450 => (if Refl.appLen y450 l0_2 < 2932031007402 then ((some (y450 ++ l0_2 : List (S25))).bind fun y453 => (if 0 ≤ (wrap64 ((l0_1.length : Int) - 1)) then (if (wrap64 ((l0_1.length : Int) - 1)) < (l0_1.length : Int) then (if y453.length < 2932031007402 then ((spec_unDesk.f l0_0 l0_1 l0_2 (l0_1.take ((wrap64 ((l0_1.length : Int) - 1)) : Int).toNat) (y453 ++ [(⟨(rd_T25 l0_1 (wrap64 ((l0_1.length : Int) - 1))).f0, (rd_T25 l0_1 (wrap64 ((l0_1.length : Int) - 1))).f1, (rd_T25 l0_1 (wrap64 ((l0_1.length : Int) - 1))).f2, (rd_T25 l0_1 (wrap64 ((l0_1.length : Int) - 1))).f3⟩ : S25)])).bind fun bt460 => (some (bt460.1, bt460.2.1, bt460.2.2, true))) else (none)) else (none)) else (none))) else (none))) else (none)) else (none))) else (some (([] : List ByteArray), ([] : List (S25)), ([] : List (S25)), false)))

theorem spec_UndoEdit.mono : ∀ a0 a1 a2 k, LeO (spec_UndoEdit.f k a0 a1 a2) (spec_UndoEdit.f (k + 1) a0 a1 a2) := by
  intro a0 a1 a2 k
  unfold spec_UndoEdit.f
  repeat' first
      | (with_reducible exact spec_unGood.mono _ _ _ _)
      | (with_reducible exact LeO.refl _)
      | (with_reducible exact LeO.none _)
      | (with_reducible refine LeO.ite ?_ ?_)
      | (with_reducible refine LeO.bind ?_ (fun _ => ?_))
      | exact spec_unGood.mono _ _ _ _
      | exact LeO.none _
      | refine LeO.ite ?_ ?_
      | refine LeO.bind ?_ (fun _ => ?_)

def spec_UndoEdit.e (k : Nat) : Refl.Ent G := ⟨99, [(.agg gL4)], .tup [(.agg gL6), (.c .bool)], fun x => spec_UndoEdit.f k x.1 x.2.1 x.2.2⟩
theorem spec_UndoEdit.ok (k : Nat) : Refl.EntOK Tryz.prog (spec_UndoEdit.e k) := Refl.ent_ok 1000000 k GC (fun k => [spec_unGood.e k, spec_unDesk.e k]) (fun k => ⟨spec_unGood.ok k, spec_unDesk.ok k, trivial⟩) Tryz.func99 (by kernel_rfl) [] (ps := []) (by kernel_rfl) trivial (fun x => by kernel_rfl)

/-! ### spec_RedoEdit: function 100 -/

def spec_RedoEdit.f (k : Nat) (l0_0 : List ByteArray) (l0_1 : List (S25)) (l0_2 : List (S25)) : Option (List ByteArray × (List (S25)) × (List (S25)) × Bool) := (spec_unGood.f k l0_0 l0_1 l0_2).bind fun t471 => (if t471 = true then (if (l0_2.length : Int) = 0 then (some (([] : List ByteArray), ([] : List (S25)), ([] : List (S25)), false)) else ((some (([] : List (S25)) : List (S25))).bind fun y472 => (if Refl.appLen y472 l0_1 < 2932031007402 then ((some (y472 ++ l0_1 : List (S25))).bind fun y475 => (if 0 ≤ (wrap64 ((l0_2.length : Int) - 1)) then (if (wrap64 ((l0_2.length : Int) - 1)) < (l0_2.length : Int) then (if y475.length < 2932031007402 then (if 0 ≤ (wrap64 ((l0_2.length : Int) - 1)) then (if (wrap64 ((l0_2.length : Int) - 1)) ≤ (l0_2.length : Int) then ((spec_unDesk.f l0_0 l0_1 l0_2 (y475 ++ [(⟨(rd_T25 l0_2 (wrap64 ((l0_2.length : Int) - 1))).f0, (rd_T25 l0_2 (wrap64 ((l0_2.length : Int) - 1))).f1, (rd_T25 l0_2 (wrap64 ((l0_2.length : Int) - 1))).f2, (rd_T25 l0_2 (wrap64 ((l0_2.length : Int) - 1))).f3⟩ : S25)]) (l0_2.take ((wrap64 ((l0_2.length : Int) - 1)) : Int).toNat)).bind fun bt486 => (some (bt486.1, bt486.2.1, bt486.2.2, true))) else (none)) else (none)) else (none)) else (none)) else (none))) else (none)))) else (some (([] : List ByteArray), ([] : List (S25)), ([] : List (S25)), false)))

theorem spec_RedoEdit.mono : ∀ a0 a1 a2 k, LeO (spec_RedoEdit.f k a0 a1 a2) (spec_RedoEdit.f (k + 1) a0 a1 a2) := by
  intro a0 a1 a2 k
  unfold spec_RedoEdit.f
  repeat' first
      | (with_reducible exact spec_unGood.mono _ _ _ _)
      | (with_reducible exact LeO.refl _)
      | (with_reducible exact LeO.none _)
      | (with_reducible refine LeO.ite ?_ ?_)
      | (with_reducible refine LeO.bind ?_ (fun _ => ?_))
      | exact spec_unGood.mono _ _ _ _
      | exact LeO.none _
      | refine LeO.ite ?_ ?_
      | refine LeO.bind ?_ (fun _ => ?_)

def spec_RedoEdit.e (k : Nat) : Refl.Ent G := ⟨100, [(.agg gL4)], .tup [(.agg gL6), (.c .bool)], fun x => spec_RedoEdit.f k x.1 x.2.1 x.2.2⟩
theorem spec_RedoEdit.ok (k : Nat) : Refl.EntOK Tryz.prog (spec_RedoEdit.e k) := Refl.ent_ok 1000000 k GC (fun k => [spec_unGood.e k, spec_unDesk.e k]) (fun k => ⟨spec_unGood.ok k, spec_unDesk.ok k, trivial⟩) Tryz.func100 (by kernel_rfl) [] (ps := []) (by kernel_rfl) trivial (fun x => by kernel_rfl)

end Go.Proofs.YtgpkeclojbcgoaaGreatDoor.PA
