-- Written by a program of this session (wip/tools/myprint.py). Not trusted: Lean checks it.
import Derived.Test.YtgpkeclojbcgoaaCtx
namespace Go.Proofs.Ytgpkeclojbcgoaa.PA
open Go.RowKit Go.Proofs.YtgpkeclojbcgoaaW.PrintWords Go.Proofs.YtgpkeclojbcgoaaW.PrintLast Go.Proofs.YtgpkeclojbcgoaaW.PrintMore
attribute [local go_sem] max2_int min2_int max_two min_two max_three min_three max_four min_four   -- for this text's walks alone
set_option linter.unusedVariables false
set_option linter.unusedSimpArgs false

/-! ### laws_big: function 6 -/

def laws_big.f (l0 : List Int) (l1 : List Int) : Option (Bool) := if (l0.length : Int) > 1048576 then (some true) else (some (decide ((l1.length : Int) > (wrap64 (1048576 - (l0.length : Int))))))

def laws_big.e (k : Nat) : Refl.Ent G := ⟨6, [(.c (.row 5 false)), (.c (.row 5 false))], .one (.c .bool), fun x => laws_big.f x.1 x.2⟩
theorem laws_big.ok (k : Nat) : Refl.EntOK Try.prog (laws_big.e k) := Refl.ent_ok 1000000 k GC (fun k => []) (fun k => trivial) Try.func6 (by kernel_rfl) [] (ps := []) (by kernel_rfl) trivial (fun x => by kernel_rfl)

/-! ### spec_l1In: function 87 -/

def spec_l1In.f (a0 : Int) (a1 : Int) (a2 : Int) : Option (Bool) := if a0 ≥ a1 then (some (decide (a0 ≤ a2))) else (some false)

def spec_l1In.e (k : Nat) : Refl.Ent G := ⟨87, [(.c li), (.c li), (.c li)], .one (.c .bool), fun x => spec_l1In.f x.1 x.2.1 x.2.2⟩
theorem spec_l1In.ok (k : Nat) : Refl.EntOK Try.prog (spec_l1In.e k) := Refl.ent_ok 1000000 k GC (fun k => []) (fun k => trivial) Try.func87 (by kernel_rfl) [] (ps := []) (by kernel_rfl) trivial (fun x => by kernel_rfl)

/-! ### spec_enGloss: function 73 -/

def spec_enGloss.l0 : Nat → ByteArray → Int → Option (Bool)
  | 0, _, _ => none
  | k + 1, x0, x3 => if x3 < (x0.size : Int) then (if 0 ≤ x3 then (if x3 < (x0.size : Int) then (if (bt x0 x3) < 65 then (some false) else (if 0 ≤ x3 then (if x3 < (x0.size : Int) then (if (bt x0 x3) > 90 then (some false) else (spec_enGloss.l0 k x0 (wrap64 (x3 + 1)))) else (none)) else (none))) else (none)) else (none)) else ((spec_l1In.f (x0.size : Int) 1 8).bind fun t101 => (some t101))

def spec_enGloss.f (k : Nat) (a0 : ByteArray) : Option (Bool) := spec_enGloss.l0 k a0 0

theorem spec_enGloss.mono_l : ∀ k, (∀ y0 y1, LeO (spec_enGloss.l0 k y0 y1) (spec_enGloss.l0 (k + 1) y0 y1))
  | 0 => fun _ _ r h => by simp [spec_enGloss.l0] at h
  | k + 1 => by
    have ih0 := spec_enGloss.mono_l k
    · intro y0 y1
      unfold spec_enGloss.l0
      repeat' first
      | (with_reducible exact ih0 _ _)
      | (with_reducible exact LeO.refl _)
      | (with_reducible exact LeO.none _)
      | (with_reducible refine LeO.ite ?_ ?_)
      | (with_reducible refine LeO.bind ?_ (fun _ => ?_))
      | exact ih0 _ _
      | exact LeO.none _
      | refine LeO.ite ?_ ?_
      | refine LeO.bind ?_ (fun _ => ?_)

theorem spec_enGloss.mono : ∀ a0 k, LeO (spec_enGloss.f k a0) (spec_enGloss.f (k + 1) a0) := by
  intro a0 k
  have ih0 := spec_enGloss.mono_l k
  unfold spec_enGloss.f
  repeat' first
      | (with_reducible exact ih0 _ _)
      | (with_reducible exact LeO.refl _)
      | (with_reducible exact LeO.none _)
      | (with_reducible refine LeO.ite ?_ ?_)
      | (with_reducible refine LeO.bind ?_ (fun _ => ?_))
      | exact ih0 _ _
      | exact LeO.none _
      | refine LeO.ite ?_ ?_
      | refine LeO.bind ?_ (fun _ => ?_)

def spec_enGloss.e (k : Nat) : Refl.Ent G := ⟨73, [(.c .str)], .one (.c .bool), fun x => spec_enGloss.f k x⟩
def spec_enGloss.pl0 : Refl.Pn G (Refl.PT G (spec_enGloss.e 0).ol) := ⟨true, 0, ⟨[(0, .v (.c .str)), (3, .v (.c li)), (2, .k (Value.bool false))], []⟩, fun k x => spec_enGloss.l0 k x.1 x.2⟩
theorem spec_enGloss.ok (k : Nat) : Refl.EntOK Try.prog (spec_enGloss.e k) := Refl.ent_ok 1000000 k GC (fun k => [spec_l1In.e k]) (fun k => ⟨spec_l1In.ok k, trivial⟩) Try.func73 (by kernel_rfl) [spec_enGloss.pl0] (ps := [spec_enGloss.pl0]) (by kernel_rfl) ⟨⟨fun x => by kernel_rfl, fun k x => by kernel_rfl⟩, trivial⟩ (fun x => by kernel_rfl)

/-! ### spec_unItems: function 96 -/

def spec_unItems.l0 : Nat → List ByteArray → List ByteArray → Int → Int → Option (Bool)
  | 0, _, _, _, _ => none
  | k + 1, x0, x5, x6, x7 => if x7 < x6 then (if 0 ≤ x7 then (if x7 < (x5.length : Int) then ((spec_enGloss.f k (rdOf ByteArray.empty x5 x7)).bind fun t103 => (if t103 = true then (spec_unItems.l0 k x0 x5 x6 (wrap64 (x7 + 1))) else (some false))) else (none)) else (none)) else (some (decide ((x0.length : Int) ≤ 20)))

def spec_unItems.f (k : Nat) (l0 : List ByteArray) : Option (Bool) := spec_unItems.l0 k l0 l0 (l0.length : Int) 0

theorem spec_unItems.mono_l : ∀ k, (∀ y0 y1 y2 y3, LeO (spec_unItems.l0 k y0 y1 y2 y3) (spec_unItems.l0 (k + 1) y0 y1 y2 y3))
  | 0 => fun _ _ _ _ r h => by simp [spec_unItems.l0] at h
  | k + 1 => by
    have ih0 := spec_unItems.mono_l k
    · intro y0 y1 y2 y3
      unfold spec_unItems.l0
      repeat' first
      | (with_reducible exact ih0 _ _ _ _)
      | (with_reducible exact spec_enGloss.mono _ _)
      | (with_reducible exact LeO.refl _)
      | (with_reducible exact LeO.none _)
      | (with_reducible refine LeO.ite ?_ ?_)
      | (with_reducible refine LeO.bind ?_ (fun _ => ?_))
      | exact ih0 _ _ _ _
      | exact spec_enGloss.mono _ _
      | exact LeO.none _
      | refine LeO.ite ?_ ?_
      | refine LeO.bind ?_ (fun _ => ?_)

theorem spec_unItems.mono : ∀ a0 k, LeO (spec_unItems.f k a0) (spec_unItems.f (k + 1) a0) := by
  intro a0 k
  have ih0 := spec_unItems.mono_l k
  unfold spec_unItems.f
  repeat' first
      | (with_reducible exact ih0 _ _ _ _)
      | (with_reducible exact spec_enGloss.mono _ _)
      | (with_reducible exact LeO.refl _)
      | (with_reducible exact LeO.none _)
      | (with_reducible refine LeO.ite ?_ ?_)
      | (with_reducible refine LeO.bind ?_ (fun _ => ?_))
      | exact ih0 _ _ _ _
      | exact spec_enGloss.mono _ _
      | exact LeO.none _
      | refine LeO.ite ?_ ?_
      | refine LeO.bind ?_ (fun _ => ?_)

def spec_unItems.e (k : Nat) : Refl.Ent G := ⟨96, [(.c (.row 9 false))], .one (.c .bool), fun x => spec_unItems.f k x⟩
def spec_unItems.pl0 : Refl.Pn G (Refl.PT G (spec_unItems.e 0).ol) := ⟨true, 0, ⟨[(0, .v (.c (.row 9 false))), (5, .v (.c (.row 9 false))), (6, .v (.c li)), (7, .v (.c li)), (2, .k (Value.bool false))], []⟩, fun k x => spec_unItems.l0 k x.1 x.2.1 x.2.2.1 x.2.2.2⟩
theorem spec_unItems.ok (k : Nat) : Refl.EntOK Try.prog (spec_unItems.e k) := Refl.ent_ok 1000000 k GC (fun k => [spec_enGloss.e k]) (fun k => ⟨spec_enGloss.ok k, trivial⟩) Try.func96 (by kernel_rfl) [spec_unItems.pl0] (ps := [spec_unItems.pl0]) (by kernel_rfl) ⟨⟨fun x => by kernel_rfl, fun k x => by kernel_rfl⟩, trivial⟩ (fun x => by kernel_rfl)

/-! ### spec_unEdit: function 67 -/

def spec_unEdit.f (k : Nat) (a0_0 : Int) (a0_1 : Int) (a0_2 : ByteArray) (a0_3 : ByteArray) : Option (Bool) := (spec_l1In.f a0_1 0 20).bind fun t105 => (if t105 = true then (if a0_0 = 0 then ((spec_enGloss.f k a0_2).bind fun t106 => (if t106 = true then (some (a0_3.toList == ([] : List UInt8))) else (some false))) else (if a0_0 = 1 then (if a0_2.toList = ([] : List UInt8) then ((spec_enGloss.f k a0_3).bind fun t107 => (some t107)) else (some false)) else (if a0_0 = 2 then ((spec_enGloss.f k a0_2).bind fun t108 => (if t108 = true then ((spec_enGloss.f k a0_3).bind fun t109 => (if t109 = true then (some (a0_2.toList != a0_3.toList)) else (some false))) else (some false))) else (some false)))) else (some false))

theorem spec_unEdit.mono : ∀ a0 a1 a2 a3 k, LeO (spec_unEdit.f k a0 a1 a2 a3) (spec_unEdit.f (k + 1) a0 a1 a2 a3) := by
  intro a0 a1 a2 a3 k
  unfold spec_unEdit.f
  repeat' first
      | (with_reducible exact spec_enGloss.mono _ _)
      | (with_reducible exact LeO.refl _)
      | (with_reducible exact LeO.none _)
      | (with_reducible refine LeO.ite ?_ ?_)
      | (with_reducible refine LeO.bind ?_ (fun _ => ?_))
      | exact spec_enGloss.mono _ _
      | exact LeO.none _
      | refine LeO.ite ?_ ?_
      | refine LeO.bind ?_ (fun _ => ?_)

def spec_unEdit.e (k : Nat) : Refl.Ent G := ⟨67, [(.agg [li, li, .str, .str])], .one (.c .bool), fun x => spec_unEdit.f k x.1 x.2.1 x.2.2.1 x.2.2.2⟩
theorem spec_unEdit.ok (k : Nat) : Refl.EntOK Try.prog (spec_unEdit.e k) := Refl.ent_ok 1000000 k GC (fun k => [spec_l1In.e k, spec_enGloss.e k]) (fun k => ⟨spec_l1In.ok k, spec_enGloss.ok k, trivial⟩) Try.func67 (by kernel_rfl) [] (ps := []) (by kernel_rfl) trivial (fun x => by kernel_rfl)

/-! ### spec_unMake: function 114 -/

def spec_unMake.j0 : Nat → List ByteArray → Bool → Int → Int → ByteArray → ByteArray → Option (List ByteArray × Bool)
  | 0, _, _, _, _, _, _ => none
  | k + 1, x0, x52, x111000, x111001, x111002, x111003 => if x52 = true then (some (([] : List ByteArray), false)) else ((some (([] : List ByteArray) : List ByteArray)).bind fun y127 => (if 0 ≤ x111001 then (if x111001 ≤ (x0.length : Int) then (if Refl.appLen y127 (x0.take (x111001 : Int).toNat) < 8796093022208 then ((some (y127 ++ (x0.take (x111001 : Int).toNat) : List ByteArray)).bind fun y131 => (if x111000 = 2 then (if y131.length < 8796093022208 then ((some (y131 ++ [x111002] : List ByteArray)).bind fun y134 => (if 0 ≤ (wrap64 (x111001 + 1)) then (if (wrap64 (x111001 + 1)) ≤ (x0.length : Int) then (if Refl.appLen y134 (x0.drop ((wrap64 (x111001 + 1)) : Int).toNat) < 8796093022208 then (some ((y134 ++ (x0.drop ((wrap64 (x111001 + 1)) : Int).toNat)), true)) else (none)) else (none)) else (none))) else (none)) else (if 0 ≤ (wrap64 (x111001 + 1)) then (if (wrap64 (x111001 + 1)) ≤ (x0.length : Int) then (if Refl.appLen y131 (x0.drop ((wrap64 (x111001 + 1)) : Int).toNat) < 8796093022208 then (some ((y131 ++ (x0.drop ((wrap64 (x111001 + 1)) : Int).toNat)), true)) else (none)) else (none)) else (none)))) else (none)) else (none)) else (none)))

def spec_unMake.f (k : Nat) (l0 : List ByteArray) (a1_0 : Int) (a1_1 : Int) (a1_2 : ByteArray) (a1_3 : ByteArray) : Option (List ByteArray × Bool) := (spec_unEdit.f k a1_0 a1_1 a1_2 a1_3).bind fun t111 => (if t111 = true then (if a1_0 = 0 then (if a1_1 > (l0.length : Int) then (some (([] : List ByteArray), false)) else (if (l0.length : Int) = 20 then (some (([] : List ByteArray), false)) else ((some (([] : List ByteArray) : List ByteArray)).bind fun y112 => (if 0 ≤ a1_1 then (if a1_1 ≤ (l0.length : Int) then (if Refl.appLen y112 (l0.take (a1_1 : Int).toNat) < 8796093022208 then ((some (y112 ++ (l0.take (a1_1 : Int).toNat) : List ByteArray)).bind fun y116 => (if y116.length < 8796093022208 then ((some (y116 ++ [a1_2] : List ByteArray)).bind fun y119 => (if 0 ≤ a1_1 then (if a1_1 ≤ (l0.length : Int) then (if Refl.appLen y119 (l0.drop (a1_1 : Int).toNat) < 8796093022208 then (some ((y119 ++ (l0.drop (a1_1 : Int).toNat)), true)) else (none)) else (none)) else (none))) else (none))) else (none)) else (none)) else (none))))) else (if a1_1 ≥ (l0.length : Int) then (spec_unMake.j0 k l0 true a1_0 a1_1 a1_2 a1_3) else (if 0 ≤ a1_1 then (if a1_1 < (l0.length : Int) then (spec_unMake.j0 k l0 ((rdOf ByteArray.empty l0 a1_1).toList != a1_3.toList) a1_0 a1_1 a1_2 a1_3) else (none)) else (none)))) else (some (([] : List ByteArray), false)))

theorem spec_unMake.mono_l : ∀ k, (∀ y0 y1 y2 y3 y4 y5, LeO (spec_unMake.j0 k y0 y1 y2 y3 y4 y5) (spec_unMake.j0 (k + 1) y0 y1 y2 y3 y4 y5))
  | 0 => fun _ _ _ _ _ _ r h => by simp [spec_unMake.j0] at h
  | k + 1 => by
    have ih0 := spec_unMake.mono_l k
    · intro y0 y1 y2 y3 y4 y5
      unfold spec_unMake.j0
      repeat' first
      | (with_reducible exact ih0 _ _ _ _ _ _)
      | (with_reducible exact spec_unEdit.mono _ _ _ _ _)
      | (with_reducible exact LeO.refl _)
      | (with_reducible exact LeO.none _)
      | (with_reducible refine LeO.ite ?_ ?_)
      | (with_reducible refine LeO.bind ?_ (fun _ => ?_))
      | exact ih0 _ _ _ _ _ _
      | exact spec_unEdit.mono _ _ _ _ _
      | exact LeO.none _
      | refine LeO.ite ?_ ?_
      | refine LeO.bind ?_ (fun _ => ?_)

theorem spec_unMake.mono : ∀ a0 a1 a2 a3 a4 k, LeO (spec_unMake.f k a0 a1 a2 a3 a4) (spec_unMake.f (k + 1) a0 a1 a2 a3 a4) := by
  intro a0 a1 a2 a3 a4 k
  have ih0 := spec_unMake.mono_l k
  unfold spec_unMake.f
  repeat' first
      | (with_reducible exact ih0 _ _ _ _ _ _)
      | (with_reducible exact spec_unEdit.mono _ _ _ _ _)
      | (with_reducible exact LeO.refl _)
      | (with_reducible exact LeO.none _)
      | (with_reducible refine LeO.ite ?_ ?_)
      | (with_reducible refine LeO.bind ?_ (fun _ => ?_))
      | exact ih0 _ _ _ _ _ _
      | exact spec_unEdit.mono _ _ _ _ _
      | exact LeO.none _
      | refine LeO.ite ?_ ?_
      | refine LeO.bind ?_ (fun _ => ?_)

def spec_unMake.e (k : Nat) : Refl.Ent G := ⟨114, [(.c (.row 9 false)), (.agg [li, li, .str, .str])], .tup [(.c (.row 9 true)), (.c .bool)], fun x => spec_unMake.f k x.1 x.2.1 x.2.2.1 x.2.2.2.1 x.2.2.2.2⟩
def spec_unMake.pj0 : Refl.Pn G (Refl.PT G (spec_unMake.e 0).ol) := ⟨false, 1000007, ⟨[(0, .v (.c (.row 9 false))), (52, .v (.c .bool)), (3, .box 3 0), (5, .k (Value.bool false))], [(3, 38, gL0)]⟩, fun k x => spec_unMake.j0 k x.1 x.2.1 x.2.2.1 x.2.2.2.1 x.2.2.2.2.1 x.2.2.2.2.2⟩
theorem spec_unMake.ok (k : Nat) : Refl.EntOK Try.prog (spec_unMake.e k) := Refl.ent_ok 1000000 k GC (fun k => [spec_unEdit.e k]) (fun k => ⟨spec_unEdit.ok k, trivial⟩) Try.func114 (by kernel_rfl) [spec_unMake.pj0] (ps := [spec_unMake.pj0]) (by kernel_rfl) ⟨⟨fun x => by kernel_rfl, fun k x => by kernel_rfl⟩, trivial⟩ (fun x => by kernel_rfl)

/-! ### spec_unAfter: function 97 -/

def spec_unAfter.l0 : Nat → List ByteArray → List (S38) → Int → Int → Option (List ByteArray × Bool)
  | 0, _, _, _, _ => none
  | k + 1, x6, x14, x15, x16 => if x16 < x15 then (if 0 ≤ x16 then (if x16 < (x14.length : Int) then ((spec_unMake.f k x6 ((rd_T38 x14 x16).f0) ((rd_T38 x14 x16).f1) ((rd_T38 x14 x16).f2) ((rd_T38 x14 x16).f3)).bind fun bt153 => (if bt153.2 = true then (spec_unAfter.l0 k bt153.1 x14 x15 (wrap64 (x16 + 1))) else (some (([] : List ByteArray), false)))) else (none)) else (none)) else (some (x6, true))

def spec_unAfter.f (k : Nat) (l0 : List ByteArray) (l1 : List (S38)) : Option (List ByteArray × Bool) := (some (([] : List ByteArray) : List ByteArray)).bind fun y145 => (if Refl.appLen y145 l0 < 8796093022208 then (spec_unAfter.l0 k (y145 ++ l0) l1 (l1.length : Int) 0) else (none))

theorem spec_unAfter.mono_l : ∀ k, (∀ y0 y1 y2 y3, LeO (spec_unAfter.l0 k y0 y1 y2 y3) (spec_unAfter.l0 (k + 1) y0 y1 y2 y3))
  | 0 => fun _ _ _ _ r h => by simp [spec_unAfter.l0] at h
  | k + 1 => by
    have ih0 := spec_unAfter.mono_l k
    · intro y0 y1 y2 y3
      unfold spec_unAfter.l0
      repeat' first
      | (with_reducible exact ih0 _ _ _ _)
      | (with_reducible exact spec_unMake.mono _ _ _ _ _ _)
      | (with_reducible exact LeO.refl _)
      | (with_reducible exact LeO.none _)
      | (with_reducible refine LeO.ite ?_ ?_)
      | (with_reducible refine LeO.bind ?_ (fun _ => ?_))
      | exact ih0 _ _ _ _
      | exact spec_unMake.mono _ _ _ _ _ _
      | exact LeO.none _
      | refine LeO.ite ?_ ?_
      | refine LeO.bind ?_ (fun _ => ?_)

theorem spec_unAfter.mono : ∀ a0 a1 k, LeO (spec_unAfter.f k a0 a1) (spec_unAfter.f (k + 1) a0 a1) := by
  intro a0 a1 k
  have ih0 := spec_unAfter.mono_l k
  unfold spec_unAfter.f
  repeat' first
      | (with_reducible exact ih0 _ _ _ _)
      | (with_reducible exact spec_unMake.mono _ _ _ _ _ _)
      | (with_reducible exact LeO.refl _)
      | (with_reducible exact LeO.none _)
      | (with_reducible refine LeO.ite ?_ ?_)
      | (with_reducible refine LeO.bind ?_ (fun _ => ?_))
      | exact ih0 _ _ _ _
      | exact spec_unMake.mono _ _ _ _ _ _
      | exact LeO.none _
      | refine LeO.ite ?_ ?_
      | refine LeO.bind ?_ (fun _ => ?_)

def spec_unAfter.e (k : Nat) : Refl.Ent G := ⟨97, [(.c (.row 9 false)), (.c (.row 38 false))], .tup [(.c (.row 9 true)), (.c .bool)], fun x => spec_unAfter.f k x.1 x.2⟩
def spec_unAfter.pl0 : Refl.Pn G (Refl.PT G (spec_unAfter.e 0).ol) := ⟨true, 0, ⟨[(6, .v (.c (.row 9 true))), (14, .v (.c (.row 38 false))), (15, .v (.c li)), (16, .v (.c li)), (5, .k (Value.bool false))], []⟩, fun k x => spec_unAfter.l0 k x.1 x.2.1 x.2.2.1 x.2.2.2⟩
theorem spec_unAfter.ok (k : Nat) : Refl.EntOK Try.prog (spec_unAfter.e k) := Refl.ent_ok 1000000 k GC (fun k => [spec_unMake.e k]) (fun k => ⟨spec_unMake.ok k, trivial⟩) Try.func97 (by kernel_rfl) [spec_unAfter.pl0] (ps := [spec_unAfter.pl0]) (by kernel_rfl) ⟨⟨fun x => by kernel_rfl, fun k x => by kernel_rfl⟩, trivial⟩ (fun x => by kernel_rfl)

/-! ### spec_unAll: function 98 -/

def spec_unAll.l0 : Nat → List (S38) → Int → List ByteArray → List (S38) → List (S38) → Option ((List (S38)))
  | 0, _, _, _, _, _ => none
  | k + 1, x3, x4, x158000, x158001, x158002 => if x4 ≥ 0 then (if 0 ≤ x4 then (if x4 < (x158002.length : Int) then (if x3.length < 2932031007402 then (spec_unAll.l0 k (x3 ++ [(⟨(rd_T38 x158002 x4).f0, (rd_T38 x158002 x4).f1, (rd_T38 x158002 x4).f2, (rd_T38 x158002 x4).f3⟩ : S38)]) (wrap64 (x4 - 1)) x158000 x158001 x158002) else (none)) else (none)) else (none)) else (some x3)

def spec_unAll.f (k : Nat) (l0_0 : List ByteArray) (l0_1 : List (S38)) (l0_2 : List (S38)) : Option ((List (S38))) := (some (([] : List (S38)) : List (S38))).bind fun y158 => (if Refl.appLen y158 l0_1 < 2932031007402 then (spec_unAll.l0 k (y158 ++ l0_1) (wrap64 ((l0_2.length : Int) - 1)) l0_0 l0_1 l0_2) else (none))

theorem spec_unAll.mono_l : ∀ k, (∀ y0 y1 y2 y3 y4, LeO (spec_unAll.l0 k y0 y1 y2 y3 y4) (spec_unAll.l0 (k + 1) y0 y1 y2 y3 y4))
  | 0 => fun _ _ _ _ _ r h => by simp [spec_unAll.l0] at h
  | k + 1 => by
    have ih0 := spec_unAll.mono_l k
    · intro y0 y1 y2 y3 y4
      unfold spec_unAll.l0
      repeat' first
      | (with_reducible exact ih0 _ _ _ _ _)
      | (with_reducible exact LeO.refl _)
      | (with_reducible exact LeO.none _)
      | (with_reducible refine LeO.ite ?_ ?_)
      | (with_reducible refine LeO.bind ?_ (fun _ => ?_))
      | exact ih0 _ _ _ _ _
      | exact LeO.none _
      | refine LeO.ite ?_ ?_
      | refine LeO.bind ?_ (fun _ => ?_)

theorem spec_unAll.mono : ∀ a0 a1 a2 k, LeO (spec_unAll.f k a0 a1 a2) (spec_unAll.f (k + 1) a0 a1 a2) := by
  intro a0 a1 a2 k
  have ih0 := spec_unAll.mono_l k
  unfold spec_unAll.f
  repeat' first
      | (with_reducible exact ih0 _ _ _ _ _)
      | (with_reducible exact LeO.refl _)
      | (with_reducible exact LeO.none _)
      | (with_reducible refine LeO.ite ?_ ?_)
      | (with_reducible refine LeO.bind ?_ (fun _ => ?_))
      | exact ih0 _ _ _ _ _
      | exact LeO.none _
      | refine LeO.ite ?_ ?_
      | refine LeO.bind ?_ (fun _ => ?_)

def spec_unAll.e (k : Nat) : Refl.Ent G := ⟨98, [(.agg gL1)], .one (.c (.row 38 true)), fun x => spec_unAll.f k x.1 x.2.1 x.2.2⟩
def spec_unAll.pl0 : Refl.Pn G (Refl.PT G (spec_unAll.e 0).ol) := ⟨true, 0, ⟨[(3, .v (.c (.row 38 true))), (4, .v (.c li)), (1, .box 1 0)], [(1, 27, gL2)]⟩, fun k x => spec_unAll.l0 k x.1 x.2.1 x.2.2.1 x.2.2.2.1 x.2.2.2.2⟩
theorem spec_unAll.ok (k : Nat) : Refl.EntOK Try.prog (spec_unAll.e k) := Refl.ent_ok 1000000 k GC (fun k => []) (fun k => trivial) Try.func98 (by kernel_rfl) [spec_unAll.pl0] (ps := [spec_unAll.pl0]) (by kernel_rfl) ⟨⟨fun x => by kernel_rfl, fun k x => by kernel_rfl⟩, trivial⟩ (fun x => by kernel_rfl)

/-! ### spec_unGood: function 58 -/

def spec_unGood.j0 : Nat → Bool → List ByteArray → List (S38) → List (S38) → Option (Bool)
  | 0, _, _, _, _ => none
  | k + 1, x18, x169000, x169001, x169002 => if x18 = true then (some false) else ((spec_unAll.f k x169000 x169001 x169002).bind fun t170 => ((spec_unAfter.f k x169000 t170).bind fun bt173 => (some bt173.2)))

def spec_unGood.f (k : Nat) (l0_0 : List ByteArray) (l0_1 : List (S38)) (l0_2 : List (S38)) : Option (Bool) := (spec_unItems.f k l0_0).bind fun t169 => (if t169 = true then (spec_unGood.j0 k (decide ((wrap64 ((l0_1.length : Int) + (l0_2.length : Int))) > 30)) l0_0 l0_1 l0_2) else (spec_unGood.j0 k true l0_0 l0_1 l0_2))

theorem spec_unGood.mono_l : ∀ k, (∀ y0 y1 y2 y3, LeO (spec_unGood.j0 k y0 y1 y2 y3) (spec_unGood.j0 (k + 1) y0 y1 y2 y3))
  | 0 => fun _ _ _ _ r h => by simp [spec_unGood.j0] at h
  | k + 1 => by
    have ih0 := spec_unGood.mono_l k
    · intro y0 y1 y2 y3
      unfold spec_unGood.j0
      repeat' first
      | (with_reducible exact ih0 _ _ _ _)
      | (with_reducible exact spec_unAfter.mono _ _ _)
      | (with_reducible exact spec_unAll.mono _ _ _ _)
      | (with_reducible exact spec_unItems.mono _ _)
      | (with_reducible exact LeO.refl _)
      | (with_reducible exact LeO.none _)
      | (with_reducible refine LeO.ite ?_ ?_)
      | (with_reducible refine LeO.bind ?_ (fun _ => ?_))
      | exact ih0 _ _ _ _
      | exact spec_unAfter.mono _ _ _
      | exact spec_unAll.mono _ _ _ _
      | exact spec_unItems.mono _ _
      | exact LeO.none _
      | refine LeO.ite ?_ ?_
      | refine LeO.bind ?_ (fun _ => ?_)

theorem spec_unGood.mono : ∀ a0 a1 a2 k, LeO (spec_unGood.f k a0 a1 a2) (spec_unGood.f (k + 1) a0 a1 a2) := by
  intro a0 a1 a2 k
  have ih0 := spec_unGood.mono_l k
  unfold spec_unGood.f
  repeat' first
      | (with_reducible exact ih0 _ _ _ _)
      | (with_reducible exact spec_unAfter.mono _ _ _)
      | (with_reducible exact spec_unAll.mono _ _ _ _)
      | (with_reducible exact spec_unItems.mono _ _)
      | (with_reducible exact LeO.refl _)
      | (with_reducible exact LeO.none _)
      | (with_reducible refine LeO.ite ?_ ?_)
      | (with_reducible refine LeO.bind ?_ (fun _ => ?_))
      | exact ih0 _ _ _ _
      | exact spec_unAfter.mono _ _ _
      | exact spec_unAll.mono _ _ _ _
      | exact spec_unItems.mono _ _
      | exact LeO.none _
      | refine LeO.ite ?_ ?_
      | refine LeO.bind ?_ (fun _ => ?_)

def spec_unGood.e (k : Nat) : Refl.Ent G := ⟨58, [(.agg gL1)], .one (.c .bool), fun x => spec_unGood.f k x.1 x.2.1 x.2.2⟩
def spec_unGood.pj0 : Refl.Pn G (Refl.PT G (spec_unGood.e 0).ol) := ⟨false, 1000001, ⟨[(18, .v (.c .bool)), (1, .box 1 0), (2, .k (Value.bool false))], [(1, 27, gL2)]⟩, fun k x => spec_unGood.j0 k x.1 x.2.1 x.2.2.1 x.2.2.2⟩
theorem spec_unGood.ok (k : Nat) : Refl.EntOK Try.prog (spec_unGood.e k) := Refl.ent_ok 1000000 k GC (fun k => [spec_unItems.e k, spec_unAll.e k, spec_unAfter.e k]) (fun k => ⟨spec_unItems.ok k, spec_unAll.ok k, spec_unAfter.ok k, trivial⟩) Try.func58 (by kernel_rfl) [spec_unGood.pj0] (ps := [spec_unGood.pj0]) (by kernel_rfl) ⟨⟨fun x => by kernel_rfl, fun k x => by kernel_rfl⟩, trivial⟩ (fun x => by kernel_rfl)

/-! ### spec_unDesk: function 59 -/

def spec_unDesk.f (l0_0 : List ByteArray) (l0_1 : List (S38)) (l0_2 : List (S38)) (l1 : List (S38)) (l2 : List (S38)) : Option (List ByteArray × (List (S38)) × (List (S38))) := (some (([] : List ByteArray) : List ByteArray)).bind fun y179 => (if Refl.appLen y179 l0_0 < 8796093022208 then ((some (([] : List (S38)) : List (S38))).bind fun y185 => (if Refl.appLen y185 l1 < 2932031007402 then ((some (([] : List (S38)) : List (S38))).bind fun y191 => (if Refl.appLen y191 l2 < 2932031007402 then (some ((y179 ++ l0_0), (y185 ++ l1), (y191 ++ l2))) else (none))) else (none))) else (none))

def spec_unDesk.e (k : Nat) : Refl.Ent G := ⟨59, [(.agg gL1), (.c (.row 38 false)), (.c (.row 38 false))], .one (.agg gL3), fun x => spec_unDesk.f x.1 x.2.1 x.2.2.1 x.2.2.2.1 x.2.2.2.2⟩
theorem spec_unDesk.ok (k : Nat) : Refl.EntOK Try.prog (spec_unDesk.e k) := Refl.ent_ok 1000000 k GC (fun k => []) (fun k => trivial) Try.func59 (by kernel_rfl) [] (ps := []) (by kernel_rfl) trivial (fun x => by kernel_rfl)

/-! ### spec_UndoEdit: function 9 -/

def spec_UndoEdit.f (k : Nat) (l0_0 : List ByteArray) (l0_1 : List (S38)) (l0_2 : List (S38)) : Option (List ByteArray × (List (S38)) × (List (S38)) × Bool) := (spec_unGood.f k l0_0 l0_1 l0_2).bind fun t199 => (if t199 = true then (if (l0_1.length : Int) = 0 then (some (([] : List ByteArray), ([] : List (S38)), ([] : List (S38)), false)) else (if 0 ≤ (wrap64 ((l0_1.length : Int) - 1)) then (if (wrap64 ((l0_1.length : Int) - 1)) ≤ (l0_1.length : Int) then ((some (([] : List (S38)) : List (S38))).bind fun y204 => (if Refl.appLen y204 l0_2 < 2932031007402 then ((some (y204 ++ l0_2 : List (S38))).bind fun y207 => (if 0 ≤ (wrap64 ((l0_1.length : Int) - 1)) then (if (wrap64 ((l0_1.length : Int) - 1)) < (l0_1.length : Int) then (if y207.length < 2932031007402 then ((spec_unDesk.f l0_0 l0_1 l0_2 (l0_1.take ((wrap64 ((l0_1.length : Int) - 1)) : Int).toNat) (y207 ++ [(⟨(rd_T38 l0_1 (wrap64 ((l0_1.length : Int) - 1))).f0, (rd_T38 l0_1 (wrap64 ((l0_1.length : Int) - 1))).f1, (rd_T38 l0_1 (wrap64 ((l0_1.length : Int) - 1))).f2, (rd_T38 l0_1 (wrap64 ((l0_1.length : Int) - 1))).f3⟩ : S38)])).bind fun bt214 => (some (bt214.1, bt214.2.1, bt214.2.2, true))) else (none)) else (none)) else (none))) else (none))) else (none)) else (none))) else (some (([] : List ByteArray), ([] : List (S38)), ([] : List (S38)), false)))

theorem spec_UndoEdit.mono : ∀ a0 a1 a2 k, LeO (spec_UndoEdit.f k a0 a1 a2) (spec_UndoEdit.f (k + 1) a0 a1 a2) := by
  intro a0 a1 a2 k
  unfold spec_UndoEdit.f
  repeat' first
      | (with_reducible exact spec_unGood.mono _ _ _ _)
      | (with_reducible exact LeO.refl _)
      | (with_reducible exact LeO.none _)
      | (with_reducible refine LeO.ite ?_ ?_)
      | (with_reducible refine LeO.bind ?_ (fun _ => ?_))
      | exact spec_unGood.mono _ _ _ _
      | exact LeO.none _
      | refine LeO.ite ?_ ?_
      | refine LeO.bind ?_ (fun _ => ?_)

def spec_UndoEdit.e (k : Nat) : Refl.Ent G := ⟨9, [(.agg gL1)], .tup [(.agg gL3), (.c .bool)], fun x => spec_UndoEdit.f k x.1 x.2.1 x.2.2⟩
theorem spec_UndoEdit.ok (k : Nat) : Refl.EntOK Try.prog (spec_UndoEdit.e k) := Refl.ent_ok 1000000 k GC (fun k => [spec_unGood.e k, spec_unDesk.e k]) (fun k => ⟨spec_unGood.ok k, spec_unDesk.ok k, trivial⟩) Try.func9 (by kernel_rfl) [] (ps := []) (by kernel_rfl) trivial (fun x => by kernel_rfl)

/-! ### spec_RedoEdit: function 11 -/

def spec_RedoEdit.f (k : Nat) (l0_0 : List ByteArray) (l0_1 : List (S38)) (l0_2 : List (S38)) : Option (List ByteArray × (List (S38)) × (List (S38)) × Bool) := (spec_unGood.f k l0_0 l0_1 l0_2).bind fun t225 => (if t225 = true then (if (l0_2.length : Int) = 0 then (some (([] : List ByteArray), ([] : List (S38)), ([] : List (S38)), false)) else ((some (([] : List (S38)) : List (S38))).bind fun y226 => (if Refl.appLen y226 l0_1 < 2932031007402 then ((some (y226 ++ l0_1 : List (S38))).bind fun y229 => (if 0 ≤ (wrap64 ((l0_2.length : Int) - 1)) then (if (wrap64 ((l0_2.length : Int) - 1)) < (l0_2.length : Int) then (if y229.length < 2932031007402 then (if 0 ≤ (wrap64 ((l0_2.length : Int) - 1)) then (if (wrap64 ((l0_2.length : Int) - 1)) ≤ (l0_2.length : Int) then ((spec_unDesk.f l0_0 l0_1 l0_2 (y229 ++ [(⟨(rd_T38 l0_2 (wrap64 ((l0_2.length : Int) - 1))).f0, (rd_T38 l0_2 (wrap64 ((l0_2.length : Int) - 1))).f1, (rd_T38 l0_2 (wrap64 ((l0_2.length : Int) - 1))).f2, (rd_T38 l0_2 (wrap64 ((l0_2.length : Int) - 1))).f3⟩ : S38)]) (l0_2.take ((wrap64 ((l0_2.length : Int) - 1)) : Int).toNat)).bind fun bt240 => (some (bt240.1, bt240.2.1, bt240.2.2, true))) else (none)) else (none)) else (none)) else (none)) else (none))) else (none)))) else (some (([] : List ByteArray), ([] : List (S38)), ([] : List (S38)), false)))

theorem spec_RedoEdit.mono : ∀ a0 a1 a2 k, LeO (spec_RedoEdit.f k a0 a1 a2) (spec_RedoEdit.f (k + 1) a0 a1 a2) := by
  intro a0 a1 a2 k
  unfold spec_RedoEdit.f
  repeat' first
      | (with_reducible exact spec_unGood.mono _ _ _ _)
      | (with_reducible exact LeO.refl _)
      | (with_reducible exact LeO.none _)
      | (with_reducible refine LeO.ite ?_ ?_)
      | (with_reducible refine LeO.bind ?_ (fun _ => ?_))
      | exact spec_unGood.mono _ _ _ _
      | exact LeO.none _
      | refine LeO.ite ?_ ?_
      | refine LeO.bind ?_ (fun _ => ?_)

def spec_RedoEdit.e (k : Nat) : Refl.Ent G := ⟨11, [(.agg gL1)], .tup [(.agg gL3), (.c .bool)], fun x => spec_RedoEdit.f k x.1 x.2.1 x.2.2⟩
theorem spec_RedoEdit.ok (k : Nat) : Refl.EntOK Try.prog (spec_RedoEdit.e k) := Refl.ent_ok 1000000 k GC (fun k => [spec_unGood.e k, spec_unDesk.e k]) (fun k => ⟨spec_unGood.ok k, spec_unDesk.ok k, trivial⟩) Try.func11 (by kernel_rfl) [] (ps := []) (by kernel_rfl) trivial (fun x => by kernel_rfl)

/-! ### spec_unNow: function 60 -/

def spec_unNow.f (k : Nat) (l0_0 : List ByteArray) (l0_1 : List (S38)) (l0_2 : List (S38)) : Option (List ByteArray) := (spec_unAfter.f k l0_0 l0_1).bind fun bt250 => (some bt250.1)

theorem spec_unNow.mono : ∀ a0 a1 a2 k, LeO (spec_unNow.f k a0 a1 a2) (spec_unNow.f (k + 1) a0 a1 a2) := by
  intro a0 a1 a2 k
  unfold spec_unNow.f
  repeat' first
      | (with_reducible exact spec_unAfter.mono _ _ _)
      | (with_reducible exact LeO.refl _)
      | (with_reducible exact LeO.none _)
      | (with_reducible refine LeO.ite ?_ ?_)
      | (with_reducible refine LeO.bind ?_ (fun _ => ?_))
      | exact spec_unAfter.mono _ _ _
      | exact LeO.none _
      | refine LeO.ite ?_ ?_
      | refine LeO.bind ?_ (fun _ => ?_)

def spec_unNow.e (k : Nat) : Refl.Ent G := ⟨60, [(.agg gL1)], .one (.c (.row 9 true)), fun x => spec_unNow.f k x.1 x.2.1 x.2.2⟩
theorem spec_unNow.ok (k : Nat) : Refl.EntOK Try.prog (spec_unNow.e k) := Refl.ent_ok 1000000 k GC (fun k => [spec_unAfter.e k]) (fun k => ⟨spec_unAfter.ok k, trivial⟩) Try.func60 (by kernel_rfl) [] (ps := []) (by kernel_rfl) trivial (fun x => by kernel_rfl)

/-! ### spec_unDo: function 74 -/

def spec_unDo.f (k : Nat) (l0_0 : List ByteArray) (l0_1 : List (S38)) (l0_2 : List (S38)) (a1_0 : Int) (a1_1 : Int) (a1_2 : ByteArray) (a1_3 : ByteArray) : Option (List ByteArray × (List (S38)) × (List (S38)) × Bool) := (spec_unNow.f k l0_0 l0_1 l0_2).bind fun t257 => ((spec_unMake.f k t257 a1_0 a1_1 a1_2 a1_3).bind fun bt260 => (if bt260.2 = true then (if (l0_1.length : Int) = 30 then (some (([] : List ByteArray), ([] : List (S38)), ([] : List (S38)), false)) else ((some (([] : List (S38)) : List (S38))).bind fun y264 => (if Refl.appLen y264 l0_1 < 2932031007402 then ((some (y264 ++ l0_1 : List (S38))).bind fun y267 => (if y267.length < 2932031007402 then ((spec_unDesk.f l0_0 l0_1 l0_2 (y267 ++ [(⟨a1_0, a1_1, a1_2, a1_3⟩ : S38)]) ([] : List (S38))).bind fun bt273 => (some (bt273.1, bt273.2.1, bt273.2.2, true))) else (none))) else (none)))) else (some (([] : List ByteArray), ([] : List (S38)), ([] : List (S38)), false))))

theorem spec_unDo.mono : ∀ a0 a1 a2 a3 a4 a5 a6 k, LeO (spec_unDo.f k a0 a1 a2 a3 a4 a5 a6) (spec_unDo.f (k + 1) a0 a1 a2 a3 a4 a5 a6) := by
  intro a0 a1 a2 a3 a4 a5 a6 k
  unfold spec_unDo.f
  repeat' first
      | (with_reducible exact spec_unMake.mono _ _ _ _ _ _)
      | (with_reducible exact spec_unNow.mono _ _ _ _)
      | (with_reducible exact LeO.refl _)
      | (with_reducible exact LeO.none _)
      | (with_reducible refine LeO.ite ?_ ?_)
      | (with_reducible refine LeO.bind ?_ (fun _ => ?_))
      | exact spec_unMake.mono _ _ _ _ _ _
      | exact spec_unNow.mono _ _ _ _
      | exact LeO.none _
      | refine LeO.ite ?_ ?_
      | refine LeO.bind ?_ (fun _ => ?_)

def spec_unDo.e (k : Nat) : Refl.Ent G := ⟨74, [(.agg gL1), (.agg [li, li, .str, .str])], .tup [(.agg gL3), (.c .bool)], fun x => spec_unDo.f k x.1 x.2.1 x.2.2.1 x.2.2.2.1 x.2.2.2.2.1 x.2.2.2.2.2.1 x.2.2.2.2.2.2⟩
theorem spec_unDo.ok (k : Nat) : Refl.EntOK Try.prog (spec_unDo.e k) := Refl.ent_ok 1000000 k GC (fun k => [spec_unNow.e k, spec_unMake.e k, spec_unDesk.e k]) (fun k => ⟨spec_unNow.ok k, spec_unMake.ok k, spec_unDesk.ok k, trivial⟩) Try.func74 (by kernel_rfl) [] (ps := []) (by kernel_rfl) trivial (fun x => by kernel_rfl)

/-! ### spec_InsertItem: function 22 -/

def spec_InsertItem.f (k : Nat) (l0_0 : List ByteArray) (l0_1 : List (S38)) (l0_2 : List (S38)) (a1 : Int) (a2 : ByteArray) : Option (List ByteArray × (List (S38)) × (List (S38)) × Bool) := (spec_unGood.f k l0_0 l0_1 l0_2).bind fun t284 => (if t284 = true then ((spec_enGloss.f k a2).bind fun t285 => (if t285 = true then ((spec_unDo.f k l0_0 l0_1 l0_2 0 a1 a2 (⟨#[]⟩ : ByteArray)).bind fun bt286 => (some (bt286.1, bt286.2.1, bt286.2.2.1, bt286.2.2.2))) else (some (([] : List ByteArray), ([] : List (S38)), ([] : List (S38)), false)))) else (some (([] : List ByteArray), ([] : List (S38)), ([] : List (S38)), false)))

theorem spec_InsertItem.mono : ∀ a0 a1 a2 a3 a4 k, LeO (spec_InsertItem.f k a0 a1 a2 a3 a4) (spec_InsertItem.f (k + 1) a0 a1 a2 a3 a4) := by
  intro a0 a1 a2 a3 a4 k
  unfold spec_InsertItem.f
  repeat' first
      | (with_reducible exact spec_enGloss.mono _ _)
      | (with_reducible exact spec_unDo.mono _ _ _ _ _ _ _ _)
      | (with_reducible exact spec_unGood.mono _ _ _ _)
      | (with_reducible exact LeO.refl _)
      | (with_reducible exact LeO.none _)
      | (with_reducible refine LeO.ite ?_ ?_)
      | (with_reducible refine LeO.bind ?_ (fun _ => ?_))
      | exact spec_enGloss.mono _ _
      | exact spec_unDo.mono _ _ _ _ _ _ _ _
      | exact spec_unGood.mono _ _ _ _
      | exact LeO.none _
      | refine LeO.ite ?_ ?_
      | refine LeO.bind ?_ (fun _ => ?_)

def spec_InsertItem.e (k : Nat) : Refl.Ent G := ⟨22, [(.agg gL1), (.c li), (.c .str)], .tup [(.agg gL3), (.c .bool)], fun x => spec_InsertItem.f k x.1 x.2.1 x.2.2.1 x.2.2.2.1 x.2.2.2.2⟩
theorem spec_InsertItem.ok (k : Nat) : Refl.EntOK Try.prog (spec_InsertItem.e k) := Refl.ent_ok 1000000 k GC (fun k => [spec_unGood.e k, spec_enGloss.e k, spec_unDo.e k]) (fun k => ⟨spec_unGood.ok k, spec_enGloss.ok k, spec_unDo.ok k, trivial⟩) Try.func22 (by kernel_rfl) [] (ps := []) (by kernel_rfl) trivial (fun x => by kernel_rfl)

/-! ### spec_StartDesk: function 105 -/

def spec_StartDesk.f (k : Nat) (l0 : List ByteArray) : Option (List ByteArray × (List (S38)) × (List (S38)) × Bool) := (spec_unItems.f k l0).bind fun t297 => (if t297 = true then ((some (([] : List ByteArray) : List ByteArray)).bind fun y298 => (if Refl.appLen y298 l0 < 8796093022208 then (some ((y298 ++ l0), ([] : List (S38)), ([] : List (S38)), true)) else (none))) else (some (([] : List ByteArray), ([] : List (S38)), ([] : List (S38)), false)))

theorem spec_StartDesk.mono : ∀ a0 k, LeO (spec_StartDesk.f k a0) (spec_StartDesk.f (k + 1) a0) := by
  intro a0 k
  unfold spec_StartDesk.f
  repeat' first
      | (with_reducible exact spec_unItems.mono _ _)
      | (with_reducible exact LeO.refl _)
      | (with_reducible exact LeO.none _)
      | (with_reducible refine LeO.ite ?_ ?_)
      | (with_reducible refine LeO.bind ?_ (fun _ => ?_))
      | exact spec_unItems.mono _ _
      | exact LeO.none _
      | refine LeO.ite ?_ ?_
      | refine LeO.bind ?_ (fun _ => ?_)

def spec_StartDesk.e (k : Nat) : Refl.Ent G := ⟨105, [(.c (.row 9 false))], .tup [(.agg gL3), (.c .bool)], fun x => spec_StartDesk.f k x⟩
theorem spec_StartDesk.ok (k : Nat) : Refl.EntOK Try.prog (spec_StartDesk.e k) := Refl.ent_ok 1000000 k GC (fun k => [spec_unItems.e k]) (fun k => ⟨spec_unItems.ok k, trivial⟩) Try.func105 (by kernel_rfl) [] (ps := []) (by kernel_rfl) trivial (fun x => by kernel_rfl)

/-! ### spec_l1Cur_next: function 129 -/

def spec_l1Cur_next.f (s0_0 : List Int) (s0_1 : Int) (s0_2 : Int) : Option (Int × List Int × Int × Int) := if s0_1 < (s0_0.length : Int) then (if 0 ≤ s0_1 then (if s0_1 < (s0_0.length : Int) then (if (wrap64 (s0_1 + 1)) ≤ (s0_0.length : Int) then (some (wrap64 (rd s0_0 s0_1), s0_0, wrap64 (s0_1 + 1), IntKind.u64.wrap ((IntKind.u64.wrap ((IntKind.u64.wrap (s0_2 * 6364136223846793005)) + (IntKind.u64.wrap (wrap64 (rd s0_0 s0_1))))) + 1442695040888963407))) else (some (wrap64 (Go.bits .and .u64 ((IntKind.u64.wrap ((IntKind.u64.wrap ((IntKind.u64.wrap (s0_2 * 6364136223846793005)) + (IntKind.u64.wrap (wrap64 (rd s0_0 s0_1))))) + 1442695040888963407)) / 1099511627776) 255), s0_0, wrap64 (s0_1 + 1), IntKind.u64.wrap ((IntKind.u64.wrap ((IntKind.u64.wrap (s0_2 * 6364136223846793005)) + (IntKind.u64.wrap (wrap64 (rd s0_0 s0_1))))) + 1442695040888963407)))) else (none)) else (none)) else (if (wrap64 (s0_1 + 1)) ≤ (s0_0.length : Int) then (some (0, s0_0, wrap64 (s0_1 + 1), IntKind.u64.wrap ((IntKind.u64.wrap ((IntKind.u64.wrap (s0_2 * 6364136223846793005)) + (IntKind.u64.wrap (0)))) + 1442695040888963407))) else (some (wrap64 (Go.bits .and .u64 ((IntKind.u64.wrap ((IntKind.u64.wrap ((IntKind.u64.wrap (s0_2 * 6364136223846793005)) + (IntKind.u64.wrap (0)))) + 1442695040888963407)) / 1099511627776) 255), s0_0, wrap64 (s0_1 + 1), IntKind.u64.wrap ((IntKind.u64.wrap ((IntKind.u64.wrap (s0_2 * 6364136223846793005)) + (IntKind.u64.wrap (0)))) + 1442695040888963407))))

def spec_l1Cur_next.e (k : Nat) : Refl.Ent G := ⟨129, [(.wr 1000000 82 gL4)], .one (.c li), fun x => spec_l1Cur_next.f x.1 x.2.1 x.2.2⟩
theorem spec_l1Cur_next.ok (k : Nat) : Refl.EntOK Try.prog (spec_l1Cur_next.e k) := Refl.ent_ok 1000000 k GC (fun k => []) (fun k => trivial) Try.func129 (by kernel_rfl) [] (ps := []) (by kernel_rfl) trivial (fun x => by kernel_rfl)

/-! ### spec_l1Cur_pick: function 107 -/

def spec_l1Cur_pick.f (s0_0 : List Int) (s0_1 : Int) (s0_2 : Int) (a1 : Int) : Option (Int × List Int × Int × Int) := if a1 ≤ 1 then (some (0, s0_0, s0_1, s0_2)) else ((spec_l1Cur_next.f s0_0 s0_1 s0_2).bind fun bt305 => (if a1 > 200 then ((spec_l1Cur_next.f bt305.2.1 bt305.2.2.1 bt305.2.2.2).bind fun bt309 => (if a1 = 0 then (none) else (some (Int.tmod (wrap64 ((wrap64 (bt305.1 * 256)) + bt309.1)) a1, bt309.2.1, bt309.2.2.1, bt309.2.2.2)))) else (if a1 = 0 then (none) else (some (Int.tmod bt305.1 a1, bt305.2.1, bt305.2.2.1, bt305.2.2.2)))))

def spec_l1Cur_pick.e (k : Nat) : Refl.Ent G := ⟨107, [(.wr 1000000 82 gL4), (.c li)], .one (.c li), fun x => spec_l1Cur_pick.f x.1 x.2.1 x.2.2.1 x.2.2.2⟩
theorem spec_l1Cur_pick.ok (k : Nat) : Refl.EntOK Try.prog (spec_l1Cur_pick.e k) := Refl.ent_ok 1000000 k GC (fun k => [spec_l1Cur_next.e k]) (fun k => ⟨spec_l1Cur_next.ok k, trivial⟩) Try.func107 (by kernel_rfl) [] (ps := []) (by kernel_rfl) trivial (fun x => by kernel_rfl)

/-! ### spec_l1Cur_of: function 113 -/

def spec_l1Cur_of.f (s0_0 : List Int) (s0_1 : Int) (s0_2 : Int) (l1 : List ByteArray) : Option (ByteArray × List Int × Int × Int) := (spec_l1Cur_pick.f s0_0 s0_1 s0_2 (l1.length : Int)).bind fun bt313 => (if 0 ≤ bt313.1 then (if bt313.1 < (l1.length : Int) then (some (rdOf ByteArray.empty l1 bt313.1, bt313.2.1, bt313.2.2.1, bt313.2.2.2)) else (none)) else (none))

def spec_l1Cur_of.e (k : Nat) : Refl.Ent G := ⟨113, [(.wr 1000000 82 gL4), (.c (.row 9 false))], .one (.c .str), fun x => spec_l1Cur_of.f x.1 x.2.1 x.2.2.1 x.2.2.2⟩
theorem spec_l1Cur_of.ok (k : Nat) : Refl.EntOK Try.prog (spec_l1Cur_of.e k) := Refl.ent_ok 1000000 k GC (fun k => [spec_l1Cur_pick.e k]) (fun k => ⟨spec_l1Cur_pick.ok k, trivial⟩) Try.func113 (by kernel_rfl) [] (ps := []) (by kernel_rfl) trivial (fun x => by kernel_rfl)

/-! ### spec_l1Cur_anyGloss: function 70 -/

def spec_l1Cur_anyGloss.f (s0_0 : List Int) (s0_1 : Int) (s0_2 : Int) : Option (ByteArray × List Int × Int × Int) := (spec_l1Cur_of.f s0_0 s0_1 s0_2 (([(⟨#[]⟩ : ByteArray), (⟨#[115, 117, 110]⟩ : ByteArray), (⟨#[78, 73, 78, 69, 76, 69, 84, 84, 69]⟩ : ByteArray), (⟨#[65, 49]⟩ : ByteArray), (⟨#[90, 79, 79]⟩ : ByteArray), (⟨#[65]⟩ : ByteArray)] : List ByteArray))).bind fun bt321 => ((spec_l1Cur_of.f bt321.2.1 bt321.2.2.1 bt321.2.2.2 (([(⟨#[83, 85, 78]⟩ : ByteArray), (⟨#[72, 79, 85, 83, 69]⟩ : ByteArray), (⟨#[84, 82, 69, 69]⟩ : ByteArray), (⟨#[82, 65, 73, 78]⟩ : ByteArray), (⟨#[66, 79, 79, 75]⟩ : ByteArray), (⟨#[83, 85, 78]⟩ : ByteArray), bt321.1] : List ByteArray))).bind fun bt328 => (some (bt328.1, bt328.2.1, bt328.2.2.1, bt328.2.2.2)))

def spec_l1Cur_anyGloss.e (k : Nat) : Refl.Ent G := ⟨70, [(.wr 1000000 82 gL4)], .one (.c .str), fun x => spec_l1Cur_anyGloss.f x.1 x.2.1 x.2.2⟩
theorem spec_l1Cur_anyGloss.ok (k : Nat) : Refl.EntOK Try.prog (spec_l1Cur_anyGloss.e k) := Refl.ent_ok 1000000 k GC (fun k => [spec_l1Cur_of.e k]) (fun k => ⟨spec_l1Cur_of.ok k, trivial⟩) Try.func70 (by kernel_rfl) [] (ps := []) (by kernel_rfl) trivial (fun x => by kernel_rfl)

/-! ### spec_l1Cur_one: function 108 -/

def spec_l1Cur_one.f (s0_0 : List Int) (s0_1 : Int) (s0_2 : Int) (a1 : Int) : Option (Bool × List Int × Int × Int) := (spec_l1Cur_pick.f s0_0 s0_1 s0_2 a1).bind fun bt332 => (some ((bt332.1 == 0), bt332.2.1, bt332.2.2.1, bt332.2.2.2))

def spec_l1Cur_one.e (k : Nat) : Refl.Ent G := ⟨108, [(.wr 1000000 82 gL4), (.c li)], .one (.c .bool), fun x => spec_l1Cur_one.f x.1 x.2.1 x.2.2.1 x.2.2.2⟩
theorem spec_l1Cur_one.ok (k : Nat) : Refl.EntOK Try.prog (spec_l1Cur_one.e k) := Refl.ent_ok 1000000 k GC (fun k => [spec_l1Cur_pick.e k]) (fun k => ⟨spec_l1Cur_pick.ok k, trivial⟩) Try.func108 (by kernel_rfl) [] (ps := []) (by kernel_rfl) trivial (fun x => by kernel_rfl)

/-! ### spec_l1Cur_gloss: function 109 -/

def spec_l1Cur_gloss.f (s0_0 : List Int) (s0_1 : Int) (s0_2 : Int) : Option (ByteArray × List Int × Int × Int) := (spec_l1Cur_of.f s0_0 s0_1 s0_2 (([(⟨#[83, 85, 78]⟩ : ByteArray), (⟨#[72, 79, 85, 83, 69]⟩ : ByteArray), (⟨#[84, 82, 69, 69]⟩ : ByteArray), (⟨#[82, 65, 73, 78]⟩ : ByteArray), (⟨#[66, 79, 79, 75]⟩ : ByteArray), (⟨#[69, 73, 71, 72, 84, 76, 69, 84]⟩ : ByteArray)] : List ByteArray))).bind fun bt339 => (some (bt339.1, bt339.2.1, bt339.2.2.1, bt339.2.2.2))

def spec_l1Cur_gloss.e (k : Nat) : Refl.Ent G := ⟨109, [(.wr 1000000 82 gL4)], .one (.c .str), fun x => spec_l1Cur_gloss.f x.1 x.2.1 x.2.2⟩
theorem spec_l1Cur_gloss.ok (k : Nat) : Refl.EntOK Try.prog (spec_l1Cur_gloss.e k) := Refl.ent_ok 1000000 k GC (fun k => [spec_l1Cur_of.e k]) (fun k => ⟨spec_l1Cur_of.ok k, trivial⟩) Try.func109 (by kernel_rfl) [] (ps := []) (by kernel_rfl) trivial (fun x => by kernel_rfl)

/-! ### spec_l1Cur_items: function 106 -/

mutual
def spec_l1Cur_items.j0 : Nat → List ByteArray → Int → List Int → Int → Int → Option (List ByteArray × List Int × Int × Int)
  | 0, _, _, _, _, _ => none
  | k + 1, x3, x4, x1000, x1001, x1002 => spec_l1Cur_items.l0 k x3 x4 x1000 x1001 x1002
def spec_l1Cur_items.l0 : Nat → List ByteArray → Int → List Int → Int → Int → Option (List ByteArray × List Int × Int × Int)
  | 0, _, _, _, _, _ => none
  | k + 1, x3, x4, x1000, x1001, x1002 => if (x3.length : Int) < x4 then ((spec_l1Cur_gloss.f x1000 x1001 x1002).bind fun bt355 => (if x3.length < 8796093022208 then (spec_l1Cur_items.l0 k (x3 ++ [bt355.1]) x4 bt355.2.1 bt355.2.2.1 bt355.2.2.2) else (none))) else (if x4 > 0 then ((spec_l1Cur_one.f x1000 x1001 x1002 24).bind fun bt362 => (spec_l1Cur_items.j2 k x3 x4 bt362.1 bt362.2.1 bt362.2.2.1 bt362.2.2.2)) else (spec_l1Cur_items.j2 k x3 x4 false x1000 x1001 x1002))
def spec_l1Cur_items.j2 : Nat → List ByteArray → Int → Bool → List Int → Int → Int → Option (List ByteArray × List Int × Int × Int)
  | 0, _, _, _, _, _, _ => none
  | k + 1, x3, x4, x26, x1000, x1001, x1002 => if x26 = true then ((spec_l1Cur_pick.f x1000 x1001 x1002 x4).bind fun bt366 => ((spec_l1Cur_anyGloss.f bt366.2.1 bt366.2.2.1 bt366.2.2.2).bind fun bt370 => (if 0 ≤ bt366.1 then (if bt366.1 < (x3.length : Int) then (some ((x3.set (bt366.1 : Int).toNat bt370.1), bt370.2.1, bt370.2.2.1, bt370.2.2.2)) else (none)) else (none)))) else (some (x3, x1000, x1001, x1002))
end

def spec_l1Cur_items.f (k : Nat) (s0_0 : List Int) (s0_1 : Int) (s0_2 : Int) : Option (List ByteArray × List Int × Int × Int) := (spec_l1Cur_pick.f s0_0 s0_1 s0_2 5).bind fun bt343 => ((spec_l1Cur_one.f bt343.2.1 bt343.2.2.1 bt343.2.2.2 12).bind fun bt347 => (if bt347.1 = true then ((spec_l1Cur_pick.f bt347.2.1 bt347.2.2.1 bt347.2.2.2 2).bind fun bt351 => (spec_l1Cur_items.l0 k ([] : List ByteArray) (wrap64 (20 + bt351.1)) bt351.2.1 bt351.2.2.1 bt351.2.2.2)) else (spec_l1Cur_items.l0 k ([] : List ByteArray) bt343.1 bt347.2.1 bt347.2.2.1 bt347.2.2.2)))

theorem spec_l1Cur_items.mono_l : ∀ k, (∀ y0 y1 y2 y3 y4, LeO (spec_l1Cur_items.j0 k y0 y1 y2 y3 y4) (spec_l1Cur_items.j0 (k + 1) y0 y1 y2 y3 y4)) ∧ (∀ y0 y1 y2 y3 y4, LeO (spec_l1Cur_items.l0 k y0 y1 y2 y3 y4) (spec_l1Cur_items.l0 (k + 1) y0 y1 y2 y3 y4)) ∧ (∀ y0 y1 y2 y3 y4 y5, LeO (spec_l1Cur_items.j2 k y0 y1 y2 y3 y4 y5) (spec_l1Cur_items.j2 (k + 1) y0 y1 y2 y3 y4 y5))
  | 0 => ⟨fun _ _ _ _ _ r h => by simp [spec_l1Cur_items.j0] at h, fun _ _ _ _ _ r h => by simp [spec_l1Cur_items.l0] at h, fun _ _ _ _ _ _ r h => by simp [spec_l1Cur_items.j2] at h⟩
  | k + 1 => by
    obtain ⟨ih0, ih1, ih2⟩ := spec_l1Cur_items.mono_l k
    refine ⟨?_, ?_, ?_⟩
    · intro y0 y1 y2 y3 y4
      unfold spec_l1Cur_items.j0
      repeat' first
      | (with_reducible exact ih0 _ _ _ _ _)
      | (with_reducible exact ih1 _ _ _ _ _)
      | (with_reducible exact ih2 _ _ _ _ _ _)
      | (with_reducible exact LeO.refl _)
      | (with_reducible exact LeO.none _)
      | (with_reducible refine LeO.ite ?_ ?_)
      | (with_reducible refine LeO.bind ?_ (fun _ => ?_))
      | exact ih0 _ _ _ _ _
      | exact ih1 _ _ _ _ _
      | exact ih2 _ _ _ _ _ _
      | exact LeO.none _
      | refine LeO.ite ?_ ?_
      | refine LeO.bind ?_ (fun _ => ?_)
    · intro y0 y1 y2 y3 y4
      unfold spec_l1Cur_items.l0
      repeat' first
      | (with_reducible exact ih0 _ _ _ _ _)
      | (with_reducible exact ih1 _ _ _ _ _)
      | (with_reducible exact ih2 _ _ _ _ _ _)
      | (with_reducible exact LeO.refl _)
      | (with_reducible exact LeO.none _)
      | (with_reducible refine LeO.ite ?_ ?_)
      | (with_reducible refine LeO.bind ?_ (fun _ => ?_))
      | exact ih0 _ _ _ _ _
      | exact ih1 _ _ _ _ _
      | exact ih2 _ _ _ _ _ _
      | exact LeO.none _
      | refine LeO.ite ?_ ?_
      | refine LeO.bind ?_ (fun _ => ?_)
    · intro y0 y1 y2 y3 y4 y5
      unfold spec_l1Cur_items.j2
      repeat' first
      | (with_reducible exact ih0 _ _ _ _ _)
      | (with_reducible exact ih1 _ _ _ _ _)
      | (with_reducible exact ih2 _ _ _ _ _ _)
      | (with_reducible exact LeO.refl _)
      | (with_reducible exact LeO.none _)
      | (with_reducible refine LeO.ite ?_ ?_)
      | (with_reducible refine LeO.bind ?_ (fun _ => ?_))
      | exact ih0 _ _ _ _ _
      | exact ih1 _ _ _ _ _
      | exact ih2 _ _ _ _ _ _
      | exact LeO.none _
      | refine LeO.ite ?_ ?_
      | refine LeO.bind ?_ (fun _ => ?_)

theorem spec_l1Cur_items.mono : ∀ a0 a1 a2 k, LeO (spec_l1Cur_items.f k a0 a1 a2) (spec_l1Cur_items.f (k + 1) a0 a1 a2) := by
  intro a0 a1 a2 k
  obtain ⟨ih0, ih1, ih2⟩ := spec_l1Cur_items.mono_l k
  unfold spec_l1Cur_items.f
  repeat' first
      | (with_reducible exact ih0 _ _ _ _ _)
      | (with_reducible exact ih1 _ _ _ _ _)
      | (with_reducible exact ih2 _ _ _ _ _ _)
      | (with_reducible exact LeO.refl _)
      | (with_reducible exact LeO.none _)
      | (with_reducible refine LeO.ite ?_ ?_)
      | (with_reducible refine LeO.bind ?_ (fun _ => ?_))
      | exact ih0 _ _ _ _ _
      | exact ih1 _ _ _ _ _
      | exact ih2 _ _ _ _ _ _
      | exact LeO.none _
      | refine LeO.ite ?_ ?_
      | refine LeO.bind ?_ (fun _ => ?_)

def spec_l1Cur_items.e (k : Nat) : Refl.Ent G := ⟨106, [(.wr 1000000 82 gL4)], .one (.c (.row 9 false)), fun x => spec_l1Cur_items.f k x.1 x.2.1 x.2.2⟩
def spec_l1Cur_items.pl0 : Refl.Pn G (Refl.PT G (spec_l1Cur_items.e 0).ol) := ⟨true, 0, ⟨[(3, .v (.c (.own 9))), (4, .v (.c li)), (0, .box 1000000 0)], [(1000000, 82, gL5)]⟩, fun k x => spec_l1Cur_items.l0 k x.1 x.2.1 x.2.2.1 x.2.2.2.1 x.2.2.2.2⟩
def spec_l1Cur_items.pj2 : Refl.Pn G (Refl.PT G (spec_l1Cur_items.e 0).ol) := ⟨false, 1000007, ⟨[(3, .v (.c (.own 9))), (4, .v (.c li)), (26, .v (.c .bool)), (0, .box 1000000 0)], [(1000000, 82, gL5)]⟩, fun k x => spec_l1Cur_items.j2 k x.1 x.2.1 x.2.2.1 x.2.2.2.1 x.2.2.2.2.1 x.2.2.2.2.2⟩
theorem spec_l1Cur_items.ok (k : Nat) : Refl.EntOK Try.prog (spec_l1Cur_items.e k) := Refl.ent_ok 1000000 k GC (fun k => [spec_l1Cur_pick.e k, spec_l1Cur_one.e k, spec_l1Cur_gloss.e k, spec_l1Cur_anyGloss.e k]) (fun k => ⟨spec_l1Cur_pick.ok k, spec_l1Cur_one.ok k, spec_l1Cur_gloss.ok k, spec_l1Cur_anyGloss.ok k, trivial⟩) Try.func106 (by kernel_rfl) [spec_l1Cur_items.pl0, spec_l1Cur_items.pj2] (ps := [spec_l1Cur_items.pl0, spec_l1Cur_items.pj2]) (by kernel_rfl) ⟨⟨fun x => by kernel_rfl, fun k x => by kernel_rfl⟩, ⟨fun x => by kernel_rfl, fun k x => by kernel_rfl⟩, trivial⟩ (fun x => by kernel_rfl)

/-! ### spec_unAt: function 130 -/

def spec_unAt.f (k : Nat) (l0_0 : List ByteArray) (l0_1 : List (S38)) (l0_2 : List (S38)) (a1 : Int) : Option (ByteArray × Bool) := (spec_unNow.f k l0_0 l0_1 l0_2).bind fun t376 => ((spec_l1In.f a1 0 (wrap64 ((t376.length : Int) - 1))).bind fun t379 => (if t379 = true then (if 0 ≤ a1 then (if a1 < (t376.length : Int) then (some (rdOf ByteArray.empty t376 a1, true)) else (none)) else (none)) else (some ((⟨#[]⟩ : ByteArray), false))))

theorem spec_unAt.mono : ∀ a0 a1 a2 a3 k, LeO (spec_unAt.f k a0 a1 a2 a3) (spec_unAt.f (k + 1) a0 a1 a2 a3) := by
  intro a0 a1 a2 a3 k
  unfold spec_unAt.f
  repeat' first
      | (with_reducible exact spec_unNow.mono _ _ _ _)
      | (with_reducible exact LeO.refl _)
      | (with_reducible exact LeO.none _)
      | (with_reducible refine LeO.ite ?_ ?_)
      | (with_reducible refine LeO.bind ?_ (fun _ => ?_))
      | exact spec_unNow.mono _ _ _ _
      | exact LeO.none _
      | refine LeO.ite ?_ ?_
      | refine LeO.bind ?_ (fun _ => ?_)

def spec_unAt.e (k : Nat) : Refl.Ent G := ⟨130, [(.agg gL1), (.c li)], .tup [(.c .str), (.c .bool)], fun x => spec_unAt.f k x.1 x.2.1 x.2.2.1 x.2.2.2⟩
theorem spec_unAt.ok (k : Nat) : Refl.EntOK Try.prog (spec_unAt.e k) := Refl.ent_ok 1000000 k GC (fun k => [spec_unNow.e k, spec_l1In.e k]) (fun k => ⟨spec_unNow.ok k, spec_l1In.ok k, trivial⟩) Try.func130 (by kernel_rfl) [] (ps := []) (by kernel_rfl) trivial (fun x => by kernel_rfl)

/-! ### spec_DeleteItem: function 110 -/

def spec_DeleteItem.f (k : Nat) (l0_0 : List ByteArray) (l0_1 : List (S38)) (l0_2 : List (S38)) (a1 : Int) : Option (List ByteArray × (List (S38)) × (List (S38)) × Bool) := (spec_unGood.f k l0_0 l0_1 l0_2).bind fun t383 => (if t383 = true then ((spec_unAt.f k l0_0 l0_1 l0_2 a1).bind fun bt384 => (if bt384.2 = true then ((spec_unDo.f k l0_0 l0_1 l0_2 1 a1 (⟨#[]⟩ : ByteArray) bt384.1).bind fun bt386 => (some (bt386.1, bt386.2.1, bt386.2.2.1, bt386.2.2.2))) else (some (([] : List ByteArray), ([] : List (S38)), ([] : List (S38)), false)))) else (some (([] : List ByteArray), ([] : List (S38)), ([] : List (S38)), false)))

theorem spec_DeleteItem.mono : ∀ a0 a1 a2 a3 k, LeO (spec_DeleteItem.f k a0 a1 a2 a3) (spec_DeleteItem.f (k + 1) a0 a1 a2 a3) := by
  intro a0 a1 a2 a3 k
  unfold spec_DeleteItem.f
  repeat' first
      | (with_reducible exact spec_unAt.mono _ _ _ _ _)
      | (with_reducible exact spec_unDo.mono _ _ _ _ _ _ _ _)
      | (with_reducible exact spec_unGood.mono _ _ _ _)
      | (with_reducible exact LeO.refl _)
      | (with_reducible exact LeO.none _)
      | (with_reducible refine LeO.ite ?_ ?_)
      | (with_reducible refine LeO.bind ?_ (fun _ => ?_))
      | exact spec_unAt.mono _ _ _ _ _
      | exact spec_unDo.mono _ _ _ _ _ _ _ _
      | exact spec_unGood.mono _ _ _ _
      | exact LeO.none _
      | refine LeO.ite ?_ ?_
      | refine LeO.bind ?_ (fun _ => ?_)

def spec_DeleteItem.e (k : Nat) : Refl.Ent G := ⟨110, [(.agg gL1), (.c li)], .tup [(.agg gL3), (.c .bool)], fun x => spec_DeleteItem.f k x.1 x.2.1 x.2.2.1 x.2.2.2⟩
theorem spec_DeleteItem.ok (k : Nat) : Refl.EntOK Try.prog (spec_DeleteItem.e k) := Refl.ent_ok 1000000 k GC (fun k => [spec_unGood.e k, spec_unAt.e k, spec_unDo.e k]) (fun k => ⟨spec_unGood.ok k, spec_unAt.ok k, spec_unDo.ok k, trivial⟩) Try.func110 (by kernel_rfl) [] (ps := []) (by kernel_rfl) trivial (fun x => by kernel_rfl)

/-! ### spec_ReplaceItem: function 111 -/

def spec_ReplaceItem.j0 : Nat → Int → ByteArray → Bool → List ByteArray → List (S38) → List (S38) → Option (List ByteArray × (List (S38)) × (List (S38)) × Bool)
  | 0, _, _, _, _, _, _ => none
  | k + 1, x1, x2, x17, x397000, x397001, x397002 => if x17 = true then (some (([] : List ByteArray), ([] : List (S38)), ([] : List (S38)), false)) else ((spec_unAt.f k x397000 x397001 x397002 x1).bind fun bt400 => (if bt400.2 = true then ((spec_unDo.f k x397000 x397001 x397002 2 x1 x2 bt400.1).bind fun bt402 => (some (bt402.1, bt402.2.1, bt402.2.2.1, bt402.2.2.2))) else (some (([] : List ByteArray), ([] : List (S38)), ([] : List (S38)), false))))

def spec_ReplaceItem.f (k : Nat) (l0_0 : List ByteArray) (l0_1 : List (S38)) (l0_2 : List (S38)) (a1 : Int) (a2 : ByteArray) : Option (List ByteArray × (List (S38)) × (List (S38)) × Bool) := (spec_unGood.f k l0_0 l0_1 l0_2).bind fun t398 => (if t398 = true then ((spec_enGloss.f k a2).bind fun t399 => (spec_ReplaceItem.j0 k a1 a2 (!t399) l0_0 l0_1 l0_2)) else (spec_ReplaceItem.j0 k a1 a2 true l0_0 l0_1 l0_2))

theorem spec_ReplaceItem.mono_l : ∀ k, (∀ y0 y1 y2 y3 y4 y5, LeO (spec_ReplaceItem.j0 k y0 y1 y2 y3 y4 y5) (spec_ReplaceItem.j0 (k + 1) y0 y1 y2 y3 y4 y5))
  | 0 => fun _ _ _ _ _ _ r h => by simp [spec_ReplaceItem.j0] at h
  | k + 1 => by
    have ih0 := spec_ReplaceItem.mono_l k
    · intro y0 y1 y2 y3 y4 y5
      unfold spec_ReplaceItem.j0
      repeat' first
      | (with_reducible exact ih0 _ _ _ _ _ _)
      | (with_reducible exact spec_enGloss.mono _ _)
      | (with_reducible exact spec_unAt.mono _ _ _ _ _)
      | (with_reducible exact spec_unDo.mono _ _ _ _ _ _ _ _)
      | (with_reducible exact spec_unGood.mono _ _ _ _)
      | (with_reducible exact LeO.refl _)
      | (with_reducible exact LeO.none _)
      | (with_reducible refine LeO.ite ?_ ?_)
      | (with_reducible refine LeO.bind ?_ (fun _ => ?_))
      | exact ih0 _ _ _ _ _ _
      | exact spec_enGloss.mono _ _
      | exact spec_unAt.mono _ _ _ _ _
      | exact spec_unDo.mono _ _ _ _ _ _ _ _
      | exact spec_unGood.mono _ _ _ _
      | exact LeO.none _
      | refine LeO.ite ?_ ?_
      | refine LeO.bind ?_ (fun _ => ?_)

theorem spec_ReplaceItem.mono : ∀ a0 a1 a2 a3 a4 k, LeO (spec_ReplaceItem.f k a0 a1 a2 a3 a4) (spec_ReplaceItem.f (k + 1) a0 a1 a2 a3 a4) := by
  intro a0 a1 a2 a3 a4 k
  have ih0 := spec_ReplaceItem.mono_l k
  unfold spec_ReplaceItem.f
  repeat' first
      | (with_reducible exact ih0 _ _ _ _ _ _)
      | (with_reducible exact spec_enGloss.mono _ _)
      | (with_reducible exact spec_unAt.mono _ _ _ _ _)
      | (with_reducible exact spec_unDo.mono _ _ _ _ _ _ _ _)
      | (with_reducible exact spec_unGood.mono _ _ _ _)
      | (with_reducible exact LeO.refl _)
      | (with_reducible exact LeO.none _)
      | (with_reducible refine LeO.ite ?_ ?_)
      | (with_reducible refine LeO.bind ?_ (fun _ => ?_))
      | exact ih0 _ _ _ _ _ _
      | exact spec_enGloss.mono _ _
      | exact spec_unAt.mono _ _ _ _ _
      | exact spec_unDo.mono _ _ _ _ _ _ _ _
      | exact spec_unGood.mono _ _ _ _
      | exact LeO.none _
      | refine LeO.ite ?_ ?_
      | refine LeO.bind ?_ (fun _ => ?_)

def spec_ReplaceItem.e (k : Nat) : Refl.Ent G := ⟨111, [(.agg gL1), (.c li), (.c .str)], .tup [(.agg gL3), (.c .bool)], fun x => spec_ReplaceItem.f k x.1 x.2.1 x.2.2.1 x.2.2.2.1 x.2.2.2.2⟩
def spec_ReplaceItem.pj0 : Refl.Pn G (Refl.PT G (spec_ReplaceItem.e 0).ol) := ⟨false, 1000001, ⟨[(1, .v (.c li)), (2, .v (.c .str)), (17, .v (.c .bool)), (3, .box 3 0), (6, .box 6 0), (7, .k (Value.bool false))], [(3, 27, gL2), (6, 27, gL6)]⟩, fun k x => spec_ReplaceItem.j0 k x.1 x.2.1 x.2.2.1 x.2.2.2.1 x.2.2.2.2.1 x.2.2.2.2.2⟩
theorem spec_ReplaceItem.ok (k : Nat) : Refl.EntOK Try.prog (spec_ReplaceItem.e k) := Refl.ent_ok 1000000 k GC (fun k => [spec_unGood.e k, spec_enGloss.e k, spec_unAt.e k, spec_unDo.e k]) (fun k => ⟨spec_unGood.ok k, spec_enGloss.ok k, spec_unAt.ok k, spec_unDo.ok k, trivial⟩) Try.func111 (by kernel_rfl) [spec_ReplaceItem.pj0] (ps := [spec_ReplaceItem.pj0]) (by kernel_rfl) ⟨⟨fun x => by kernel_rfl, fun k x => by kernel_rfl⟩, trivial⟩ (fun x => by kernel_rfl)

/-! ### spec_l1Cur_among: function 86 -/

def spec_l1Cur_among.f (s0_0 : List Int) (s0_1 : Int) (s0_2 : Int) (l1 : List Int) : Option (Int × List Int × Int × Int) := (spec_l1Cur_pick.f s0_0 s0_1 s0_2 (l1.length : Int)).bind fun bt412 => (if 0 ≤ bt412.1 then (if bt412.1 < (l1.length : Int) then (some (rd l1 bt412.1, bt412.2.1, bt412.2.2.1, bt412.2.2.2)) else (none)) else (none))

def spec_l1Cur_among.e (k : Nat) : Refl.Ent G := ⟨86, [(.wr 1000000 82 gL4), (.c (.row 3 false))], .one (.c li), fun x => spec_l1Cur_among.f x.1 x.2.1 x.2.2.1 x.2.2.2⟩
theorem spec_l1Cur_among.ok (k : Nat) : Refl.EntOK Try.prog (spec_l1Cur_among.e k) := Refl.ent_ok 1000000 k GC (fun k => [spec_l1Cur_pick.e k]) (fun k => ⟨spec_l1Cur_pick.ok k, trivial⟩) Try.func86 (by kernel_rfl) [] (ps := []) (by kernel_rfl) trivial (fun x => by kernel_rfl)

/-! ### spec_l1Cur_deskEdit: function 112 -/

mutual
def spec_l1Cur_deskEdit.j0 : Nat → List Int → Int → Int → Int → Int → ByteArray → ByteArray → Option (Int × Int × ByteArray × ByteArray × List Int × Int × Int)
  | 0, _, _, _, _, _, _, _ => none
  | k + 1, x1000, x1001, x1002, x430000, x430001, x430002, x430003 => if x430000 = 0 then (spec_l1Cur_deskEdit.j1 k x1000 x1001 x1002 x430000 x430001 x430002 x430003) else ((spec_l1Cur_gloss.f x1000 x1001 x1002).bind fun bt434 => (spec_l1Cur_deskEdit.j1 k bt434.2.1 bt434.2.2.1 bt434.2.2.2 x430000 x430001 x430002 bt434.1))
def spec_l1Cur_deskEdit.j1 : Nat → List Int → Int → Int → Int → Int → ByteArray → ByteArray → Option (Int × Int × ByteArray × ByteArray × List Int × Int × Int)
  | 0, _, _, _, _, _, _, _ => none
  | k + 1, x1000, x1001, x1002, x430000, x430001, x430002, x430003 => (spec_l1Cur_pick.f x1000 x1001 x1002 30).bind fun bt438 => (if bt438.1 = 0 then ((spec_l1Cur_among.f bt438.2.1 bt438.2.2.1 bt438.2.2.2 (([(-1), 3, 0, 1] : List Int))).bind fun bt445 => (some (bt445.1, x430001, x430002, x430003, bt445.2.1, bt445.2.2.1, bt445.2.2.2))) else (if bt438.1 = 1 then ((spec_l1Cur_among.f bt438.2.1 bt438.2.2.1 bt438.2.2.2 (([(-1), 21] : List Int))).bind fun bt452 => (some (x430000, bt452.1, x430002, x430003, bt452.2.1, bt452.2.2.1, bt452.2.2.2))) else (if bt438.1 = 2 then ((spec_l1Cur_anyGloss.f bt438.2.1 bt438.2.2.1 bt438.2.2.2).bind fun bt456 => (some (x430000, x430001, bt456.1, x430003, bt456.2.1, bt456.2.2.1, bt456.2.2.2))) else (some (x430000, x430001, x430002, x430003, bt438.2.1, bt438.2.2.1, bt438.2.2.2)))))
end

def spec_l1Cur_deskEdit.f (k : Nat) (s0_0 : List Int) (s0_1 : Int) (s0_2 : Int) : Option (Int × Int × ByteArray × ByteArray × List Int × Int × Int) := (spec_l1Cur_pick.f s0_0 s0_1 s0_2 3).bind fun bt418 => ((spec_l1Cur_among.f bt418.2.1 bt418.2.2.1 bt418.2.2.2 (([0, 1, 2, 5, 20] : List Int))).bind fun bt425 => (if bt418.1 = 1 then (spec_l1Cur_deskEdit.j0 k bt425.2.1 bt425.2.2.1 bt425.2.2.2 bt418.1 bt425.1 (⟨#[]⟩ : ByteArray) (⟨#[]⟩ : ByteArray)) else ((spec_l1Cur_gloss.f bt425.2.1 bt425.2.2.1 bt425.2.2.2).bind fun bt430 => (spec_l1Cur_deskEdit.j0 k bt430.2.1 bt430.2.2.1 bt430.2.2.2 bt418.1 bt425.1 bt430.1 (⟨#[]⟩ : ByteArray)))))

theorem spec_l1Cur_deskEdit.mono_l : ∀ k, (∀ y0 y1 y2 y3 y4 y5 y6, LeO (spec_l1Cur_deskEdit.j0 k y0 y1 y2 y3 y4 y5 y6) (spec_l1Cur_deskEdit.j0 (k + 1) y0 y1 y2 y3 y4 y5 y6)) ∧ (∀ y0 y1 y2 y3 y4 y5 y6, LeO (spec_l1Cur_deskEdit.j1 k y0 y1 y2 y3 y4 y5 y6) (spec_l1Cur_deskEdit.j1 (k + 1) y0 y1 y2 y3 y4 y5 y6))
  | 0 => ⟨fun _ _ _ _ _ _ _ r h => by simp [spec_l1Cur_deskEdit.j0] at h, fun _ _ _ _ _ _ _ r h => by simp [spec_l1Cur_deskEdit.j1] at h⟩
  | k + 1 => by
    obtain ⟨ih0, ih1⟩ := spec_l1Cur_deskEdit.mono_l k
    refine ⟨?_, ?_⟩
    · intro y0 y1 y2 y3 y4 y5 y6
      unfold spec_l1Cur_deskEdit.j0
      repeat' first
      | (with_reducible exact ih0 _ _ _ _ _ _ _)
      | (with_reducible exact ih1 _ _ _ _ _ _ _)
      | (with_reducible exact LeO.refl _)
      | (with_reducible exact LeO.none _)
      | (with_reducible refine LeO.ite ?_ ?_)
      | (with_reducible refine LeO.bind ?_ (fun _ => ?_))
      | exact ih0 _ _ _ _ _ _ _
      | exact ih1 _ _ _ _ _ _ _
      | exact LeO.none _
      | refine LeO.ite ?_ ?_
      | refine LeO.bind ?_ (fun _ => ?_)
    · intro y0 y1 y2 y3 y4 y5 y6
      unfold spec_l1Cur_deskEdit.j1
      repeat' first
      | (with_reducible exact ih0 _ _ _ _ _ _ _)
      | (with_reducible exact ih1 _ _ _ _ _ _ _)
      | (with_reducible exact LeO.refl _)
      | (with_reducible exact LeO.none _)
      | (with_reducible refine LeO.ite ?_ ?_)
      | (with_reducible refine LeO.bind ?_ (fun _ => ?_))
      | exact ih0 _ _ _ _ _ _ _
      | exact ih1 _ _ _ _ _ _ _
      | exact LeO.none _
      | refine LeO.ite ?_ ?_
      | refine LeO.bind ?_ (fun _ => ?_)

theorem spec_l1Cur_deskEdit.mono : ∀ a0 a1 a2 k, LeO (spec_l1Cur_deskEdit.f k a0 a1 a2) (spec_l1Cur_deskEdit.f (k + 1) a0 a1 a2) := by
  intro a0 a1 a2 k
  obtain ⟨ih0, ih1⟩ := spec_l1Cur_deskEdit.mono_l k
  unfold spec_l1Cur_deskEdit.f
  repeat' first
      | (with_reducible exact ih0 _ _ _ _ _ _ _)
      | (with_reducible exact ih1 _ _ _ _ _ _ _)
      | (with_reducible exact LeO.refl _)
      | (with_reducible exact LeO.none _)
      | (with_reducible refine LeO.ite ?_ ?_)
      | (with_reducible refine LeO.bind ?_ (fun _ => ?_))
      | exact ih0 _ _ _ _ _ _ _
      | exact ih1 _ _ _ _ _ _ _
      | exact LeO.none _
      | refine LeO.ite ?_ ?_
      | refine LeO.bind ?_ (fun _ => ?_)

def spec_l1Cur_deskEdit.e (k : Nat) : Refl.Ent G := ⟨112, [(.wr 1000000 82 gL4)], .one (.agg [li, li, .str, .str]), fun x => spec_l1Cur_deskEdit.f k x.1 x.2.1 x.2.2⟩
def spec_l1Cur_deskEdit.pj0 : Refl.Pn G (Refl.PT G (spec_l1Cur_deskEdit.e 0).ol) := ⟨false, 4, ⟨[(0, .box 1000000 0), (3, .box 3 0), (2, .box 2 0)], [(1000000, 82, gL5), (3, 38, gL0), (2, 38, gL7)]⟩, fun k x => spec_l1Cur_deskEdit.j0 k x.1 x.2.1 x.2.2.1 x.2.2.2.1 x.2.2.2.2.1 x.2.2.2.2.2.1 x.2.2.2.2.2.2⟩
def spec_l1Cur_deskEdit.pj1 : Refl.Pn G (Refl.PT G (spec_l1Cur_deskEdit.e 0).ol) := ⟨false, 6, ⟨[(0, .box 1000000 0), (3, .box 3 0), (2, .box 2 0)], [(1000000, 82, gL5), (3, 38, gL0), (2, 38, gL7)]⟩, fun k x => spec_l1Cur_deskEdit.j1 k x.1 x.2.1 x.2.2.1 x.2.2.2.1 x.2.2.2.2.1 x.2.2.2.2.2.1 x.2.2.2.2.2.2⟩
theorem spec_l1Cur_deskEdit.ok (k : Nat) : Refl.EntOK Try.prog (spec_l1Cur_deskEdit.e k) := Refl.ent_ok 1000000 k GC (fun k => [spec_l1Cur_pick.e k, spec_l1Cur_among.e k, spec_l1Cur_gloss.e k, spec_l1Cur_anyGloss.e k]) (fun k => ⟨spec_l1Cur_pick.ok k, spec_l1Cur_among.ok k, spec_l1Cur_gloss.ok k, spec_l1Cur_anyGloss.ok k, trivial⟩) Try.func112 (by kernel_rfl) [spec_l1Cur_deskEdit.pj0, spec_l1Cur_deskEdit.pj1] (ps := [spec_l1Cur_deskEdit.pj0, spec_l1Cur_deskEdit.pj1]) (by kernel_rfl) ⟨⟨fun x => by kernel_rfl, fun k x => by kernel_rfl⟩, ⟨fun x => by kernel_rfl, fun k x => by kernel_rfl⟩, trivial⟩ (fun x => by kernel_rfl)

end Go.Proofs.Ytgpkeclojbcgoaa.PA
