-- Written by a program of this session (wip/tools/myprint.py). Not trusted: Lean checks it.
import Derived.Test.YtelldeeokpjchaaGreatDoorCtx
import Derived.Test.YtelldeeokpjchaaGreatDoorPAx5
import Derived.Test.YtelldeeokpjchaaGreatDoorPAx6
import Derived.Test.YtelldeeokpjchaaGreatDoorPAx12
namespace Go.Proofs.YtelldeeokpjchaaGreatDoor.PA
open Go.RowKit Go.Proofs.YtelldeeokpjchaaGreatDoorW.PrintWords Go.Proofs.YtelldeeokpjchaaGreatDoorW.PrintLast Go.Proofs.YtelldeeokpjchaaGreatDoorW.PrintMore
attribute [local go_sem] max2_int min2_int max_two min_two max_three min_three max_four min_four   -- for this text's walks alone
set_option linter.unusedVariables false
set_option linter.unusedSimpArgs false

/-! ### spec_l1Least: function 46 -/

def spec_l1Least.f (a0 : Int) (a1 : Int) : Option (Int) := if a0 < a1 then (some a0) else (some a1)

def spec_l1Least.e (k : Nat) : Refl.Ent G := ⟨46, [(.c li), (.c li)], .one (.c li), fun x => spec_l1Least.f x.1 x.2⟩
theorem spec_l1Least.ok (k : Nat) : Refl.EntOK Tryz.prog (spec_l1Least.e k) := Refl.ent_ok 1000000 k GC (fun k => []) (fun k => trivial) Tryz.func46 (by kernel_rfl) [] (ps := []) (by kernel_rfl) trivial (fun x => by kernel_rfl)

/-! ### spec_ruOpen: function 47 -/

def spec_ruOpen.l0 : Nat → Int → List Int → Int → Int → Option (Int)
  | 0, _, _, _, _ => none
  | k + 1, x3, x9, x10, x11 => if x11 < x10 then (if 0 ≤ x11 then (if x11 < (x9.length : Int) then (if (rd x9 x11) = 0 then (spec_ruOpen.l0 k (wrap64 (x3 + 1)) x9 x10 (wrap64 (x11 + 1))) else (spec_ruOpen.l0 k x3 x9 x10 (wrap64 (x11 + 1)))) else (none)) else (none)) else (some x3)

def spec_ruOpen.f (k : Nat) (a0_0 : Int) (a0_1 : Int) (a0_2 : Int) (a0_3 : Int) (a0_4 : Int) (a0_5 : Bool) (a0_6 : Int) (a0_7 : Int) (a0_8 : Int) (a0_9 : Int) (a0_10 : Bool) (a0_11 : ByteArray) (a0_12 : Int) (a0_13 : Bool) (a0_14 : Int) (a0_15 : Int) (a0_16 : Int) (a0_17 : Int) (a0_18 : Int) (a0_19 : Bool) (a0_20 : Int) (a0_21 : Int) (a0_22 : Int) (a0_23 : Int) (a0_24 : Bool) (a0_25 : ByteArray) (a0_26 : Int) : Option (Int) := (spec_shFingers.f a0_0 a0_1 a0_2 a0_3 a0_4 a0_5).bind fun t788 => (spec_ruOpen.l0 k 0 t788 (t788.length : Int) 0)

theorem spec_ruOpen.mono_l : ∀ k, (∀ y0 y1 y2 y3, LeO (spec_ruOpen.l0 k y0 y1 y2 y3) (spec_ruOpen.l0 (k + 1) y0 y1 y2 y3))
  | 0 => fun _ _ _ _ r h => by simp [spec_ruOpen.l0] at h
  | k + 1 => by
    have ih0 := spec_ruOpen.mono_l k
    · intro y0 y1 y2 y3
      unfold spec_ruOpen.l0
      repeat' first
      | (with_reducible exact ih0 _ _ _ _)
      | (with_reducible exact LeO.refl _)
      | (with_reducible exact LeO.none _)
      | (with_reducible refine LeO.ite ?_ ?_)
      | (with_reducible refine LeO.bind ?_ (fun _ => ?_))
      | exact ih0 _ _ _ _
      | exact LeO.none _
      | refine LeO.ite ?_ ?_
      | refine LeO.bind ?_ (fun _ => ?_)

theorem spec_ruOpen.mono : ∀ a0 a1 a2 a3 a4 a5 a6 a7 a8 a9 a10 a11 a12 a13 a14 a15 a16 a17 a18 a19 a20 a21 a22 a23 a24 a25 a26 k, LeO (spec_ruOpen.f k a0 a1 a2 a3 a4 a5 a6 a7 a8 a9 a10 a11 a12 a13 a14 a15 a16 a17 a18 a19 a20 a21 a22 a23 a24 a25 a26) (spec_ruOpen.f (k + 1) a0 a1 a2 a3 a4 a5 a6 a7 a8 a9 a10 a11 a12 a13 a14 a15 a16 a17 a18 a19 a20 a21 a22 a23 a24 a25 a26) := by
  intro a0 a1 a2 a3 a4 a5 a6 a7 a8 a9 a10 a11 a12 a13 a14 a15 a16 a17 a18 a19 a20 a21 a22 a23 a24 a25 a26 k
  have ih0 := spec_ruOpen.mono_l k
  unfold spec_ruOpen.f
  repeat' first
      | (with_reducible exact ih0 _ _ _ _)
      | (with_reducible exact LeO.refl _)
      | (with_reducible exact LeO.none _)
      | (with_reducible refine LeO.ite ?_ ?_)
      | (with_reducible refine LeO.bind ?_ (fun _ => ?_))
      | exact ih0 _ _ _ _
      | exact LeO.none _
      | refine LeO.ite ?_ ?_
      | refine LeO.bind ?_ (fun _ => ?_)

def spec_ruOpen.e (k : Nat) : Refl.Ent G := ⟨47, [(.agg gL5)], .one (.c li), fun x => spec_ruOpen.f k x.1 x.2.1 x.2.2.1 x.2.2.2.1 x.2.2.2.2.1 x.2.2.2.2.2.1 x.2.2.2.2.2.2.1 x.2.2.2.2.2.2.2.1 x.2.2.2.2.2.2.2.2.1 x.2.2.2.2.2.2.2.2.2.1 x.2.2.2.2.2.2.2.2.2.2.1 x.2.2.2.2.2.2.2.2.2.2.2.1 x.2.2.2.2.2.2.2.2.2.2.2.2.1 x.2.2.2.2.2.2.2.2.2.2.2.2.2.1 x.2.2.2.2.2.2.2.2.2.2.2.2.2.2.1 x.2.2.2.2.2.2.2.2.2.2.2.2.2.2.2.1 x.2.2.2.2.2.2.2.2.2.2.2.2.2.2.2.2.1 x.2.2.2.2.2.2.2.2.2.2.2.2.2.2.2.2.2.1 x.2.2.2.2.2.2.2.2.2.2.2.2.2.2.2.2.2.2.1 x.2.2.2.2.2.2.2.2.2.2.2.2.2.2.2.2.2.2.2.1 x.2.2.2.2.2.2.2.2.2.2.2.2.2.2.2.2.2.2.2.2.1 x.2.2.2.2.2.2.2.2.2.2.2.2.2.2.2.2.2.2.2.2.2.1 x.2.2.2.2.2.2.2.2.2.2.2.2.2.2.2.2.2.2.2.2.2.2.1 x.2.2.2.2.2.2.2.2.2.2.2.2.2.2.2.2.2.2.2.2.2.2.2.1 x.2.2.2.2.2.2.2.2.2.2.2.2.2.2.2.2.2.2.2.2.2.2.2.2.1 x.2.2.2.2.2.2.2.2.2.2.2.2.2.2.2.2.2.2.2.2.2.2.2.2.2.1 x.2.2.2.2.2.2.2.2.2.2.2.2.2.2.2.2.2.2.2.2.2.2.2.2.2.2⟩
def spec_ruOpen.pl0 : Refl.Pn G (Refl.PT G (spec_ruOpen.e 0).ol) := ⟨true, 0, ⟨[(3, .v (.c li)), (9, .v (.c (.row 3 false))), (10, .v (.c li)), (11, .v (.c li)), (2, .k (Value.int IntKind.i64 0))], []⟩, fun k x => spec_ruOpen.l0 k x.1 x.2.1 x.2.2.1 x.2.2.2⟩
theorem spec_ruOpen.ok (k : Nat) : Refl.EntOK Tryz.prog (spec_ruOpen.e k) := Refl.ent_ok 1000000 k GC (fun k => [spec_shFingers.e k]) (fun k => ⟨spec_shFingers.ok k, trivial⟩) Tryz.func47 (by kernel_rfl) [spec_ruOpen.pl0] (ps := [spec_ruOpen.pl0]) (by kernel_rfl) ⟨⟨fun x => by kernel_rfl, fun k x => by kernel_rfl⟩, trivial⟩ (fun x => by kernel_rfl)

/-! ### spec_TightestOpen: function 25 -/

def spec_TightestOpen.l0 : Nat → Int → List (S40) → Int → Int → Option (Int × Bool)
  | 0, _, _, _, _ => none
  | k + 1, x4, x10, x11, x12 => if x12 < x11 then (if 0 ≤ x12 then (if x12 < (x10.length : Int) then ((spec_ruOpen.f k ((rd_T40 x10 x12).f0.f0.f0) ((rd_T40 x10 x12).f0.f0.f1) ((rd_T40 x10 x12).f0.f0.f2) ((rd_T40 x10 x12).f0.f0.f3) ((rd_T40 x10 x12).f0.f0.f4) ((rd_T40 x10 x12).f0.f0.f5) ((rd_T40 x10 x12).f0.f1.f0) ((rd_T40 x10 x12).f0.f1.f1) ((rd_T40 x10 x12).f0.f2.f0) ((rd_T40 x10 x12).f0.f2.f1) ((rd_T40 x10 x12).f0.f2.f2) ((rd_T40 x10 x12).f0.f3.f0) ((rd_T40 x10 x12).f0.f3.f1) ((rd_T40 x10 x12).f1) ((rd_T40 x10 x12).f2.f0.f0) ((rd_T40 x10 x12).f2.f0.f1) ((rd_T40 x10 x12).f2.f0.f2) ((rd_T40 x10 x12).f2.f0.f3) ((rd_T40 x10 x12).f2.f0.f4) ((rd_T40 x10 x12).f2.f0.f5) ((rd_T40 x10 x12).f2.f1.f0) ((rd_T40 x10 x12).f2.f1.f1) ((rd_T40 x10 x12).f2.f2.f0) ((rd_T40 x10 x12).f2.f2.f1) ((rd_T40 x10 x12).f2.f2.f2) ((rd_T40 x10 x12).f2.f3.f0) ((rd_T40 x10 x12).f2.f3.f1)).bind fun t795 => ((spec_l1Least.f x4 t795).bind fun t796 => (spec_TightestOpen.l0 k t796 x10 x11 (wrap64 (x12 + 1))))) else (none)) else (none)) else (some (x4, true))

def spec_TightestOpen.f (k : Nat) (l0 : List (S40)) : Option (Int × Bool) := (spec_paList.f k l0).bind fun t792 => (if t792 = true then (spec_TightestOpen.l0 k 4 l0 (l0.length : Int) 0) else (some (0, false)))

theorem spec_TightestOpen.mono_l : ∀ k, (∀ y0 y1 y2 y3, LeO (spec_TightestOpen.l0 k y0 y1 y2 y3) (spec_TightestOpen.l0 (k + 1) y0 y1 y2 y3))
  | 0 => fun _ _ _ _ r h => by simp [spec_TightestOpen.l0] at h
  | k + 1 => by
    have ih0 := spec_TightestOpen.mono_l k
    · intro y0 y1 y2 y3
      unfold spec_TightestOpen.l0
      repeat' first
      | (with_reducible exact ih0 _ _ _ _)
      | (with_reducible exact spec_paList.mono _ _)
      | (with_reducible exact spec_ruOpen.mono _ _ _ _ _ _ _ _ _ _ _ _ _ _ _ _ _ _ _ _ _ _ _ _ _ _ _ _)
      | (with_reducible exact LeO.refl _)
      | (with_reducible exact LeO.none _)
      | (with_reducible refine LeO.ite ?_ ?_)
      | (with_reducible refine LeO.bind ?_ (fun _ => ?_))
      | exact ih0 _ _ _ _
      | exact spec_paList.mono _ _
      | exact spec_ruOpen.mono _ _ _ _ _ _ _ _ _ _ _ _ _ _ _ _ _ _ _ _ _ _ _ _ _ _ _ _
      | exact LeO.none _
      | refine LeO.ite ?_ ?_
      | refine LeO.bind ?_ (fun _ => ?_)

theorem spec_TightestOpen.mono : ∀ a0 k, LeO (spec_TightestOpen.f k a0) (spec_TightestOpen.f (k + 1) a0) := by
  intro a0 k
  have ih0 := spec_TightestOpen.mono_l k
  unfold spec_TightestOpen.f
  repeat' first
      | (with_reducible exact ih0 _ _ _ _)
      | (with_reducible exact spec_paList.mono _ _)
      | (with_reducible exact spec_ruOpen.mono _ _ _ _ _ _ _ _ _ _ _ _ _ _ _ _ _ _ _ _ _ _ _ _ _ _ _ _)
      | (with_reducible exact LeO.refl _)
      | (with_reducible exact LeO.none _)
      | (with_reducible refine LeO.ite ?_ ?_)
      | (with_reducible refine LeO.bind ?_ (fun _ => ?_))
      | exact ih0 _ _ _ _
      | exact spec_paList.mono _ _
      | exact spec_ruOpen.mono _ _ _ _ _ _ _ _ _ _ _ _ _ _ _ _ _ _ _ _ _ _ _ _ _ _ _ _
      | exact LeO.none _
      | refine LeO.ite ?_ ?_
      | refine LeO.bind ?_ (fun _ => ?_)

def spec_TightestOpen.e (k : Nat) : Refl.Ent G := ⟨25, [(.c (.row 40 false))], .tup [(.c li), (.c .bool)], fun x => spec_TightestOpen.f k x⟩
def spec_TightestOpen.pl0 : Refl.Pn G (Refl.PT G (spec_TightestOpen.e 0).ol) := ⟨true, 0, ⟨[(4, .v (.c li)), (10, .v (.c (.row 40 false))), (11, .v (.c li)), (12, .v (.c li)), (2, .k (Value.int IntKind.i64 0)), (3, .k (Value.bool false))], []⟩, fun k x => spec_TightestOpen.l0 k x.1 x.2.1 x.2.2.1 x.2.2.2⟩
theorem spec_TightestOpen.ok (k : Nat) : Refl.EntOK Tryz.prog (spec_TightestOpen.e k) := Refl.ent_ok 1000000 k GC (fun k => [spec_paList.e k, spec_ruOpen.e k, spec_l1Least.e k]) (fun k => ⟨spec_paList.ok k, spec_ruOpen.ok k, spec_l1Least.ok k, trivial⟩) Tryz.func25 (by kernel_rfl) [spec_TightestOpen.pl0] (ps := [spec_TightestOpen.pl0]) (by kernel_rfl) ⟨⟨fun x => by kernel_rfl, fun k x => by kernel_rfl⟩, trivial⟩ (fun x => by kernel_rfl)

/-! ### impl_Shape_open: function 48 -/

def thIIdx : Nat → List Int → List Int
  | _, [] => []
  | i, x :: xs => if (x == 0) = true then (i : Int) :: thIIdx (i + 1) xs else thIIdx (i + 1) xs
/-- How many hold. -/

def thICnt (l : List Int) : Int := ((l.filter fun x => (x == 0)).length : Int)

theorem thIIdx_len : ∀ (l : List Int) (i : Nat), (thIIdx i l).length = (l.filter fun x => (x == 0)).length
  | [], _ => rfl
  | x :: xs, i => by
    unfold thIIdx
    rw [List.filter_cons]
    by_cases h : (x == 0) = true
    · rw [if_pos h, if_pos h, List.length_cons, List.length_cons, thIIdx_len xs (i + 1)]
    · rw [if_neg h, if_neg h, thIIdx_len xs (i + 1)]

def thIFrom (l : List Int) (i : Nat) (o R : List Int) : Prop := i ≤ l.length ∧ o ++ thIIdx i (l.drop i) = R ∧ o.length ≤ i

theorem thI_step {l : List Int} {i : Nat} {o R : List Int} (h : thIFrom l i o R) (hlt : i < l.length) : ((fun x => (x == 0)) l[i] = true → thIFrom l (i + 1) (o ++ [(i : Int)]) R) ∧ (¬ (fun x => (x == 0)) l[i] = true → thIFrom l (i + 1) o R) := by
  obtain ⟨_, h, hl⟩ := h
  rw [List.drop_eq_getElem_cons hlt] at h
  unfold thIIdx at h
  refine ⟨fun e => ?_, fun e => ?_⟩
  · rw [if_pos e] at h
    exact ⟨by omega, by rw [List.append_assoc]; exact h, by simp; omega⟩
  · rw [if_neg e] at h
    exact ⟨by omega, h, by omega⟩

theorem thI_end {l : List Int} {i : Nat} {o R : List Int} (h : thIFrom l i o R) (hge : ¬ i < l.length) : o = R := by
  obtain ⟨hi, h, _⟩ := h
  rw [List.drop_eq_nil_of_le (by omega)] at h
  simpa [thIIdx] using h

theorem thI_info : (Tryz.prog.info? 3).map (fun i => (i.zero, i.size, i.bytes)) = some (some (.int .i64 0), 1, 8) := by kernel_rfl

def impl_Shape_open.f (a0_0 a0_1 a0_2 a0_3 a0_4 : Int) (a0_5 : Bool) : Option Int := some (thICnt [a0_1, a0_2, a0_3, a0_4])

def impl_Shape_open.e (k : Nat) : Refl.Ent G := ⟨48, [(.agg [li, li, li, li, li, .bool])], .one (.c li), fun x => impl_Shape_open.f x.1 x.2.1 x.2.2.1 x.2.2.2.1 x.2.2.2.2.1 x.2.2.2.2.2⟩
def op1.f (x : Int) : Option Bool := some (x == 0)
def op1.e (k : Nat) : Refl.Ent G := ⟨68, [.c li], .one (.c .bool), fun x => op1.f x⟩
theorem op1.ok (k : Nat) : Refl.EntOK Tryz.prog (op1.e k) := Refl.ent_ok 1000000 k GC (fun k => []) (fun k => trivial) Tryz.func68 (by kernel_rfl) [] (ps := []) (by kernel_rfl) trivial (fun x => by kernel_rfl)
def op2.l0 : Nat → List Int → Int → Int → List Int → Option (List Int)
  | 0, _, _, _, _ => none
  | k + 1, l, n, i, o => if i < n then (if 0 ≤ i then (if i < (l.length : Int) then ((op1.f (rd l i)).bind fun t => if t = true then (if o.length < 17592186044416 then (op2.l0 k l n (wrap64 (i + 1)) (o ++ [i])) else (none)) else (op2.l0 k l n (wrap64 (i + 1)) o)) else (none)) else (none)) else (some o)
def op2.f (k : Nat) (l : List Int) : Option (List Int) := op2.l0 k l (l.length : Int) 0 ([] : List Int)
def op2.e (k : Nat) : Refl.Ent G := ⟨66, [.c (.row 3 false), .clo 68 []], .one (.c (.row 3 true)), fun x => op2.f k x⟩
def op2.p : Refl.Pn G (Refl.PT G (op2.e 0).ol) := ⟨true, 0, ⟨[(1, .v (.clo 68 [])), (8, .v (.c (.row 3 false))), (9, .v (.c li)), (10, .v (.c li)), (5, .v (.c (.row 3 true)))], []⟩, fun k x => op2.l0 k x.1 x.2.1 x.2.2.1 x.2.2.2⟩
theorem op2.ok (k : Nat) : Refl.EntOK Tryz.prog (op2.e k) := Refl.ent_ok 1000000 k GC (fun k => [op1.e k]) (fun k => ⟨op1.ok k, trivial⟩) Tryz.func66 (by kernel_rfl) [op2.p] (ps := [op2.p]) (by kernel_rfl) ⟨⟨fun x => by kernel_rfl, fun k x => by kernel_rfl⟩, trivial⟩ (fun x => by kernel_rfl)
def op0.f (k : Nat) (a0 a1 a2 a3 a4 : Int) (a5 : Bool) : Option Int := (impl_Shape_bends.f a0 a1 a2 a3 a4 a5).bind fun t => (op2.f k t).bind fun u => some (u.length : Int)
def op0.e (k : Nat) : Refl.Ent G := ⟨48, [(.agg [li, li, li, li, li, .bool])], .one (.c li), fun x => op0.f k x.1 x.2.1 x.2.2.1 x.2.2.2.1 x.2.2.2.2.1 x.2.2.2.2.2⟩
theorem op0.ok (k : Nat) : Refl.EntOK Tryz.prog (op0.e k) := Refl.ent_ok 1000000 k GC (fun k => [impl_Shape_bends.e k, op2.e k]) (fun k => ⟨impl_Shape_bends.ok k, op2.ok k, trivial⟩) Tryz.func48 (by kernel_rfl) [] (ps := []) (by kernel_rfl) trivial (fun x => by kernel_rfl)
theorem op2_eq (l : List Int) (hl : l.length ≤ 1000) : ∀ (k i : Nat) (o : List Int), l.length - i < k → i ≤ l.length → o.length ≤ i → op2.l0 k l (l.length : Int) (i : Int) o = some (o ++ thIIdx i (l.drop i))
  | 0, i, o, h, _, _ => by omega
  | k + 1, i, o, h, hi, ho => by
    unfold op2.l0
    by_cases hlt : i < l.length
    · have hd := List.drop_eq_getElem_cons hlt
      have e : rd l (i : Int) = l[i] := by
        unfold rd
        rw [List.getD_eq_getElem?_getD]
        simp [hlt]
      have hw : wrap64 ((i : Int) + 1) = ((i + 1 : Nat) : Int) := by unfold wrap64; omega
      rw [if_pos (by omega), if_pos (by omega), if_pos (by omega), e, hd, hw]
      simp only [op1.f, Option.bind_some, thIIdx]
      by_cases hx : (l[i] == 0) = true
      · rw [if_pos hx, if_pos hx, if_pos (by omega), op2_eq l hl k (i + 1) _ (by omega) (by omega) (by simp; omega), List.append_assoc]
        rfl
      · rw [if_neg hx, if_neg hx, op2_eq l hl k (i + 1) _ (by omega) (by omega) (by omega)]
    · rw [if_neg (by omega), List.drop_eq_nil_of_le (by omega)]
      simp [thIIdx]
theorem op0_eq (a0 a1 a2 a3 a4 : Int) (a5 : Bool) : op0.f 1002 a0 a1 a2 a3 a4 a5 = impl_Shape_open.f a0 a1 a2 a3 a4 a5 := by
  have := op2_eq [a1, a2, a3, a4] (by simp) 1002 0 [] (by simp) (by simp) (by simp)
  show (op2.l0 1002 [a1, a2, a3, a4] (([a1, a2, a3, a4] : List Int).length : Int) ((0 : Nat) : Int) []).bind _ = some (thICnt [a1, a2, a3, a4])
  rw [this]
  simp only [Option.bind_some, List.nil_append, List.drop_zero, thIIdx_len, thICnt]
theorem impl_Shape_open.ok (k : Nat) : Refl.EntOK Tryz.prog (impl_Shape_open.e k) := (op0.ok 1002).weaken _ fun x y h => (op0_eq x.1 x.2.1 x.2.2.1 x.2.2.2.1 x.2.2.2.2.1 x.2.2.2.2.2).trans h

/-! ### impl_TightestOpen: function 26 -/

def impl_TightestOpen.l0 : Nat → Int → List (S40) → Int → Int → Option (Int × Bool)
  | 0, _, _, _, _ => none
  | k + 1, x4, x10, x11, x12 => if x12 < x11 then (if 0 ≤ x12 then (if x12 < (x10.length : Int) then ((impl_Shape_open.f ((rd_T40 x10 x12).f0.f0.f0) ((rd_T40 x10 x12).f0.f0.f1) ((rd_T40 x10 x12).f0.f0.f2) ((rd_T40 x10 x12).f0.f0.f3) ((rd_T40 x10 x12).f0.f0.f4) ((rd_T40 x10 x12).f0.f0.f5)).bind fun t800 => (impl_TightestOpen.l0 k (mn x4 t800) x10 x11 (wrap64 (x12 + 1)))) else (none)) else (none)) else (some (x4, true))

def impl_TightestOpen.f (k : Nat) (l0 : List (S40)) : Option (Int × Bool) := (impl_areSigns.f k l0 20).bind fun t797 => (if t797 = true then (impl_TightestOpen.l0 k 4 l0 (l0.length : Int) 0) else (some (0, false)))

theorem impl_TightestOpen.mono_l : ∀ k, (∀ y0 y1 y2 y3, LeO (impl_TightestOpen.l0 k y0 y1 y2 y3) (impl_TightestOpen.l0 (k + 1) y0 y1 y2 y3))
  | 0 => fun _ _ _ _ r h => by simp [impl_TightestOpen.l0] at h
  | k + 1 => by
    have ih0 := impl_TightestOpen.mono_l k
    · intro y0 y1 y2 y3
      unfold impl_TightestOpen.l0
      repeat' first
      | (with_reducible exact ih0 _ _ _ _)
      | (with_reducible exact impl_areSigns.mono _ _ _)
      | (with_reducible exact LeO.refl _)
      | (with_reducible exact LeO.none _)
      | (with_reducible refine LeO.ite ?_ ?_)
      | (with_reducible refine LeO.bind ?_ (fun _ => ?_))
      | exact ih0 _ _ _ _
      | exact impl_areSigns.mono _ _ _
      | exact LeO.none _
      | refine LeO.ite ?_ ?_
      | refine LeO.bind ?_ (fun _ => ?_)

theorem impl_TightestOpen.mono : ∀ a0 k, LeO (impl_TightestOpen.f k a0) (impl_TightestOpen.f (k + 1) a0) := by
  intro a0 k
  have ih0 := impl_TightestOpen.mono_l k
  unfold impl_TightestOpen.f
  repeat' first
      | (with_reducible exact ih0 _ _ _ _)
      | (with_reducible exact impl_areSigns.mono _ _ _)
      | (with_reducible exact LeO.refl _)
      | (with_reducible exact LeO.none _)
      | (with_reducible refine LeO.ite ?_ ?_)
      | (with_reducible refine LeO.bind ?_ (fun _ => ?_))
      | exact ih0 _ _ _ _
      | exact impl_areSigns.mono _ _ _
      | exact LeO.none _
      | refine LeO.ite ?_ ?_
      | refine LeO.bind ?_ (fun _ => ?_)

def impl_TightestOpen.e (k : Nat) : Refl.Ent G := ⟨26, [(.c (.row 40 false))], .tup [(.c li), (.c .bool)], fun x => impl_TightestOpen.f k x⟩
def impl_TightestOpen.pl0 : Refl.Pn G (Refl.PT G (impl_TightestOpen.e 0).ol) := ⟨true, 0, ⟨[(4, .v (.c li)), (10, .v (.c (.row 40 false))), (11, .v (.c li)), (12, .v (.c li)), (2, .k (Value.int IntKind.i64 0)), (3, .k (Value.bool false))], []⟩, fun k x => impl_TightestOpen.l0 k x.1 x.2.1 x.2.2.1 x.2.2.2⟩
theorem impl_TightestOpen.ok (k : Nat) : Refl.EntOK Tryz.prog (impl_TightestOpen.e k) := Refl.ent_ok 1000000 k GC (fun k => [impl_areSigns.e k, impl_Shape_open.e k]) (fun k => ⟨impl_areSigns.ok k, impl_Shape_open.ok k, trivial⟩) Tryz.func26 (by kernel_rfl) [impl_TightestOpen.pl0] (ps := [impl_TightestOpen.pl0]) (by kernel_rfl) ⟨⟨fun x => by kernel_rfl, fun k x => by kernel_rfl⟩, trivial⟩ (fun x => by kernel_rfl)

/-! ### laws_FnExactTightestOpen: function 7 -/

def laws_FnExactTightestOpen.j0 : Nat → List (S47) → List (S40) → Bool → Option (Bool)
  | 0, _, _, _ => none
  | k + 1, x0, x6, x34 => if x34 = true then (some false) else ((laws_toSignS.f k x0).bind fun t812 => ((laws_eqSignS.f k x6 t812).bind fun t815 => (if t815 = true then (some true) else (some false))))

def laws_FnExactTightestOpen.f (k : Nat) (l0 : List (S47)) : Option (Bool) := (laws_szSignS.f k l0 1048576).bind fun t801 => (if t801 < 0 then (some true) else ((laws_toSignS.f k l0).bind fun t802 => ((spec_TightestOpen.f k t802).bind fun bt805 => ((laws_toSignS.f k l0).bind fun t807 => ((impl_TightestOpen.f k t807).bind fun bt810 => (if bt810.1 = bt805.1 then (laws_FnExactTightestOpen.j0 k l0 t807 (!(bt810.2 == bt805.2))) else (laws_FnExactTightestOpen.j0 k l0 t807 true)))))))

theorem laws_FnExactTightestOpen.mono_l : ∀ k, (∀ y0 y1 y2, LeO (laws_FnExactTightestOpen.j0 k y0 y1 y2) (laws_FnExactTightestOpen.j0 (k + 1) y0 y1 y2))
  | 0 => fun _ _ _ r h => by simp [laws_FnExactTightestOpen.j0] at h
  | k + 1 => by
    have ih0 := laws_FnExactTightestOpen.mono_l k
    · intro y0 y1 y2
      unfold laws_FnExactTightestOpen.j0
      repeat' first
      | (with_reducible exact ih0 _ _ _)
      | (with_reducible exact impl_TightestOpen.mono _ _)
      | (with_reducible exact laws_eqSignS.mono _ _ _)
      | (with_reducible exact laws_szSignS.mono _ _ _)
      | (with_reducible exact laws_toSignS.mono _ _)
      | (with_reducible exact spec_TightestOpen.mono _ _)
      | (with_reducible exact LeO.refl _)
      | (with_reducible exact LeO.none _)
      | (with_reducible refine LeO.ite ?_ ?_)
      | (with_reducible refine LeO.bind ?_ (fun _ => ?_))
      | exact ih0 _ _ _
      | exact impl_TightestOpen.mono _ _
      | exact laws_eqSignS.mono _ _ _
      | exact laws_szSignS.mono _ _ _
      | exact laws_toSignS.mono _ _
      | exact spec_TightestOpen.mono _ _
      | exact LeO.none _
      | refine LeO.ite ?_ ?_
      | refine LeO.bind ?_ (fun _ => ?_)

theorem laws_FnExactTightestOpen.mono : ∀ a0 k, LeO (laws_FnExactTightestOpen.f k a0) (laws_FnExactTightestOpen.f (k + 1) a0) := by
  intro a0 k
  have ih0 := laws_FnExactTightestOpen.mono_l k
  unfold laws_FnExactTightestOpen.f
  repeat' first
      | (with_reducible exact ih0 _ _ _)
      | (with_reducible exact impl_TightestOpen.mono _ _)
      | (with_reducible exact laws_eqSignS.mono _ _ _)
      | (with_reducible exact laws_szSignS.mono _ _ _)
      | (with_reducible exact laws_toSignS.mono _ _)
      | (with_reducible exact spec_TightestOpen.mono _ _)
      | (with_reducible exact LeO.refl _)
      | (with_reducible exact LeO.none _)
      | (with_reducible refine LeO.ite ?_ ?_)
      | (with_reducible refine LeO.bind ?_ (fun _ => ?_))
      | exact ih0 _ _ _
      | exact impl_TightestOpen.mono _ _
      | exact laws_eqSignS.mono _ _ _
      | exact laws_szSignS.mono _ _ _
      | exact laws_toSignS.mono _ _
      | exact spec_TightestOpen.mono _ _
      | exact LeO.none _
      | refine LeO.ite ?_ ?_
      | refine LeO.bind ?_ (fun _ => ?_)

def laws_FnExactTightestOpen.e (k : Nat) : Refl.Ent G := ⟨7, [(.c (.row 47 false))], .one (.c .bool), fun x => laws_FnExactTightestOpen.f k x⟩
def laws_FnExactTightestOpen.pj0 : Refl.Pn G (Refl.PT G (laws_FnExactTightestOpen.e 0).ol) := ⟨false, 1000008, ⟨[(0, .v (.c (.row 47 false))), (6, .v (.c (.row 40 false))), (34, .v (.c .bool)), (2, .k (Value.bool false))], []⟩, fun k x => laws_FnExactTightestOpen.j0 k x.1 x.2.1 x.2.2⟩
theorem laws_FnExactTightestOpen.ok (k : Nat) : Refl.EntOK Tryz.prog (laws_FnExactTightestOpen.e k) := Refl.ent_ok 1000000 k GC (fun k => [laws_szSignS.e k, laws_toSignS.e k, spec_TightestOpen.e k, impl_TightestOpen.e k, laws_eqSignS.e k]) (fun k => ⟨laws_szSignS.ok k, laws_toSignS.ok k, spec_TightestOpen.ok k, impl_TightestOpen.ok k, laws_eqSignS.ok k, trivial⟩) Tryz.func7 (by kernel_rfl) [laws_FnExactTightestOpen.pj0] (ps := [laws_FnExactTightestOpen.pj0]) (by kernel_rfl) ⟨⟨fun x => by kernel_rfl, fun k x => by kernel_rfl⟩, trivial⟩ (fun x => by kernel_rfl)

theorem laws_FnExactTightestOpen.calls (k : Nat) (A0 : Option Addr) (c0 : Nat) (l0 : List (S47)) (r : Bool) (w : World) (hr0 : Kd.C k47 w A0 l0.length l0) (hc0 : l0.length ≤ c0) (h : laws_FnExactTightestOpen.f k l0 = some r) :
    Calls Tryz.prog 7 #[.slice A0 l0.length c0] w fun e w' => e = .returned (.bool r) ∧ Below w.heap.size w w' :=
 Refl.EntOK.use (laws_FnExactTightestOpen.ok k) l0 r h (vals := [.slice A0 l0.length c0]) (by kernel_rfl) (by kernel_rfl) ⟨row_of (k47) rk47 (fun _ _ _ h => k47_open h) rfl hr0 hc0, trivial⟩ (by kernel_rfl)

end Go.Proofs.YtelldeeokpjchaaGreatDoor.PA
