-- Written by a program of this session (wip/tools/myprint.py). Not trusted: Lean checks it.
import Derived.Test.YtelldeeokpjchaaGreatDoorCtx
import Derived.Test.YtelldeeokpjchaaGreatDoorPAx5
import Derived.Test.YtelldeeokpjchaaGreatDoorPAx7
import Derived.Test.YtelldeeokpjchaaGreatDoorPAx8
import Derived.Test.YtelldeeokpjchaaGreatDoorPAx9
namespace Go.Proofs.YtelldeeokpjchaaGreatDoor.PA
open Go.RowKit Go.Proofs.YtelldeeokpjchaaGreatDoorW.PrintWords Go.Proofs.YtelldeeokpjchaaGreatDoorW.PrintLast Go.Proofs.YtelldeeokpjchaaGreatDoorW.PrintMore
attribute [local go_sem] max2_int min2_int max_two min_two max_three min_three max_four min_four   -- for this text's walks alone
set_option linter.unusedVariables false
set_option linter.unusedSimpArgs false

/-! ### laws_szSignS: function 20 -/

def laws_szSignS.l0 : Nat → List (S47) → Int → Int → Option (Int)
  | 0, _, _, _ => none
  | k + 1, x0, x1, x5 => if x5 < (x0.length : Int) then (if 0 ≤ x5 then (if x5 < (x0.length : Int) then ((laws_szSign.f ((rd_T47 x0 x5).f0.f0.f0) ((rd_T47 x0 x5).f0.f0.f1) ((rd_T47 x0 x5).f0.f0.f2) ((rd_T47 x0 x5).f0.f0.f3) ((rd_T47 x0 x5).f0.f0.f4) ((rd_T47 x0 x5).f0.f0.f5) ((rd_T47 x0 x5).f0.f1.f0) ((rd_T47 x0 x5).f0.f1.f1) ((rd_T47 x0 x5).f0.f2.f0) ((rd_T47 x0 x5).f0.f2.f1) ((rd_T47 x0 x5).f0.f2.f2) ((rd_T47 x0 x5).f0.f3.f0) ((rd_T47 x0 x5).f0.f3.f1) ((rd_T47 x0 x5).f1) ((rd_T47 x0 x5).f2.f0.f0) ((rd_T47 x0 x5).f2.f0.f1) ((rd_T47 x0 x5).f2.f0.f2) ((rd_T47 x0 x5).f2.f0.f3) ((rd_T47 x0 x5).f2.f0.f4) ((rd_T47 x0 x5).f2.f0.f5) ((rd_T47 x0 x5).f2.f1.f0) ((rd_T47 x0 x5).f2.f1.f1) ((rd_T47 x0 x5).f2.f2.f0) ((rd_T47 x0 x5).f2.f2.f1) ((rd_T47 x0 x5).f2.f2.f2) ((rd_T47 x0 x5).f2.f3.f0) ((rd_T47 x0 x5).f2.f3.f1) x1).bind fun t717 => (if t717 < 0 then (some (-1)) else (laws_szSignS.l0 k x0 t717 (wrap64 (x5 + 1))))) else (none)) else (none)) else (some x1)

def laws_szSignS.f (k : Nat) (l0 : List (S47)) (a1 : Int) : Option (Int) := if (wrap64 (a1 - (l0.length : Int))) < 0 then (some (-1)) else (laws_szSignS.l0 k l0 (wrap64 (a1 - (l0.length : Int))) 0)

theorem laws_szSignS.mono_l : ∀ k, (∀ y0 y1 y2, LeO (laws_szSignS.l0 k y0 y1 y2) (laws_szSignS.l0 (k + 1) y0 y1 y2))
  | 0 => fun _ _ _ r h => by simp [laws_szSignS.l0] at h
  | k + 1 => by
    have ih0 := laws_szSignS.mono_l k
    · intro y0 y1 y2
      unfold laws_szSignS.l0
      repeat' first
      | (with_reducible exact ih0 _ _ _)
      | (with_reducible exact LeO.refl _)
      | (with_reducible exact LeO.none _)
      | (with_reducible refine LeO.ite ?_ ?_)
      | (with_reducible refine LeO.bind ?_ (fun _ => ?_))
      | exact ih0 _ _ _
      | exact LeO.none _
      | refine LeO.ite ?_ ?_
      | refine LeO.bind ?_ (fun _ => ?_)

theorem laws_szSignS.mono : ∀ a0 a1 k, LeO (laws_szSignS.f k a0 a1) (laws_szSignS.f (k + 1) a0 a1) := by
  intro a0 a1 k
  have ih0 := laws_szSignS.mono_l k
  unfold laws_szSignS.f
  repeat' first
      | (with_reducible exact ih0 _ _ _)
      | (with_reducible exact LeO.refl _)
      | (with_reducible exact LeO.none _)
      | (with_reducible refine LeO.ite ?_ ?_)
      | (with_reducible refine LeO.bind ?_ (fun _ => ?_))
      | exact ih0 _ _ _
      | exact LeO.none _
      | refine LeO.ite ?_ ?_
      | refine LeO.bind ?_ (fun _ => ?_)

def laws_szSignS.e (k : Nat) : Refl.Ent G := ⟨20, [(.c (.row 47 false)), (.c li)], .one (.c li), fun x => laws_szSignS.f k x.1 x.2⟩
def laws_szSignS.pl0 : Refl.Pn G (Refl.PT G (laws_szSignS.e 0).ol) := ⟨true, 0, ⟨[(0, .v (.c (.row 47 false))), (1, .v (.c li)), (5, .v (.c li)), (4, .k (Value.int IntKind.i64 0))], []⟩, fun k x => laws_szSignS.l0 k x.1 x.2.1 x.2.2⟩
theorem laws_szSignS.ok (k : Nat) : Refl.EntOK Tryz.prog (laws_szSignS.e k) := Refl.ent_ok 1000000 k GC (fun k => [laws_szSign.e k]) (fun k => ⟨laws_szSign.ok k, trivial⟩) Tryz.func20 (by kernel_rfl) [laws_szSignS.pl0] (ps := [laws_szSignS.pl0]) (by kernel_rfl) ⟨⟨fun x => by kernel_rfl, fun k x => by kernel_rfl⟩, trivial⟩ (fun x => by kernel_rfl)

/-! ### spec_paList: function 41 -/

def spec_paList.l0 : Nat → List (S40) → List (S40) → Int → Int → Option (Bool)
  | 0, _, _, _, _ => none
  | k + 1, x0, x5, x6, x7 => if x7 < x6 then (if 0 ≤ x7 then (if x7 < (x5.length : Int) then ((spec_siGood.f k ((rd_T40 x5 x7).f0.f0.f0) ((rd_T40 x5 x7).f0.f0.f1) ((rd_T40 x5 x7).f0.f0.f2) ((rd_T40 x5 x7).f0.f0.f3) ((rd_T40 x5 x7).f0.f0.f4) ((rd_T40 x5 x7).f0.f0.f5) ((rd_T40 x5 x7).f0.f1.f0) ((rd_T40 x5 x7).f0.f1.f1) ((rd_T40 x5 x7).f0.f2.f0) ((rd_T40 x5 x7).f0.f2.f1) ((rd_T40 x5 x7).f0.f2.f2) ((rd_T40 x5 x7).f0.f3.f0) ((rd_T40 x5 x7).f0.f3.f1) ((rd_T40 x5 x7).f1) ((rd_T40 x5 x7).f2.f0.f0) ((rd_T40 x5 x7).f2.f0.f1) ((rd_T40 x5 x7).f2.f0.f2) ((rd_T40 x5 x7).f2.f0.f3) ((rd_T40 x5 x7).f2.f0.f4) ((rd_T40 x5 x7).f2.f0.f5) ((rd_T40 x5 x7).f2.f1.f0) ((rd_T40 x5 x7).f2.f1.f1) ((rd_T40 x5 x7).f2.f2.f0) ((rd_T40 x5 x7).f2.f2.f1) ((rd_T40 x5 x7).f2.f2.f2) ((rd_T40 x5 x7).f2.f3.f0) ((rd_T40 x5 x7).f2.f3.f1)).bind fun t720 => (if t720 = true then (spec_paList.l0 k x0 x5 x6 (wrap64 (x7 + 1))) else (some false))) else (none)) else (none)) else (some (decide ((x0.length : Int) ≤ 20)))

def spec_paList.f (k : Nat) (l0 : List (S40)) : Option (Bool) := spec_paList.l0 k l0 l0 (l0.length : Int) 0

theorem spec_paList.mono_l : ∀ k, (∀ y0 y1 y2 y3, LeO (spec_paList.l0 k y0 y1 y2 y3) (spec_paList.l0 (k + 1) y0 y1 y2 y3))
  | 0 => fun _ _ _ _ r h => by simp [spec_paList.l0] at h
  | k + 1 => by
    have ih0 := spec_paList.mono_l k
    · intro y0 y1 y2 y3
      unfold spec_paList.l0
      repeat' first
      | (with_reducible exact ih0 _ _ _ _)
      | (with_reducible exact spec_siGood.mono _ _ _ _ _ _ _ _ _ _ _ _ _ _ _ _ _ _ _ _ _ _ _ _ _ _ _ _)
      | (with_reducible exact LeO.refl _)
      | (with_reducible exact LeO.none _)
      | (with_reducible refine LeO.ite ?_ ?_)
      | (with_reducible refine LeO.bind ?_ (fun _ => ?_))
      | exact ih0 _ _ _ _
      | exact spec_siGood.mono _ _ _ _ _ _ _ _ _ _ _ _ _ _ _ _ _ _ _ _ _ _ _ _ _ _ _ _
      | exact LeO.none _
      | refine LeO.ite ?_ ?_
      | refine LeO.bind ?_ (fun _ => ?_)

theorem spec_paList.mono : ∀ a0 k, LeO (spec_paList.f k a0) (spec_paList.f (k + 1) a0) := by
  intro a0 k
  have ih0 := spec_paList.mono_l k
  unfold spec_paList.f
  repeat' first
      | (with_reducible exact ih0 _ _ _ _)
      | (with_reducible exact spec_siGood.mono _ _ _ _ _ _ _ _ _ _ _ _ _ _ _ _ _ _ _ _ _ _ _ _ _ _ _ _)
      | (with_reducible exact LeO.refl _)
      | (with_reducible exact LeO.none _)
      | (with_reducible refine LeO.ite ?_ ?_)
      | (with_reducible refine LeO.bind ?_ (fun _ => ?_))
      | exact ih0 _ _ _ _
      | exact spec_siGood.mono _ _ _ _ _ _ _ _ _ _ _ _ _ _ _ _ _ _ _ _ _ _ _ _ _ _ _ _
      | exact LeO.none _
      | refine LeO.ite ?_ ?_
      | refine LeO.bind ?_ (fun _ => ?_)

def spec_paList.e (k : Nat) : Refl.Ent G := ⟨41, [(.c (.row 40 false))], .one (.c .bool), fun x => spec_paList.f k x⟩
def spec_paList.pl0 : Refl.Pn G (Refl.PT G (spec_paList.e 0).ol) := ⟨true, 0, ⟨[(0, .v (.c (.row 40 false))), (5, .v (.c (.row 40 false))), (6, .v (.c li)), (7, .v (.c li)), (2, .k (Value.bool false))], []⟩, fun k x => spec_paList.l0 k x.1 x.2.1 x.2.2.1 x.2.2.2⟩
theorem spec_paList.ok (k : Nat) : Refl.EntOK Tryz.prog (spec_paList.e k) := Refl.ent_ok 1000000 k GC (fun k => [spec_siGood.e k]) (fun k => ⟨spec_siGood.ok k, trivial⟩) Tryz.func41 (by kernel_rfl) [spec_paList.pl0] (ps := [spec_paList.pl0]) (by kernel_rfl) ⟨⟨fun x => by kernel_rfl, fun k x => by kernel_rfl⟩, trivial⟩ (fun x => by kernel_rfl)

/-! ### laws_toSignS: function 22 -/

def laws_toSignS.l0 : Nat → List (S47) → List (S40) → Int → Option ((List (S40)))
  | 0, _, _, _ => none
  | k + 1, x0, x3, x4 => if x4 < (x0.length : Int) then (if 0 ≤ x4 then (if x4 < (x0.length : Int) then ((laws_toSign.f ((rd_T47 x0 x4).f0.f0.f0) ((rd_T47 x0 x4).f0.f0.f1) ((rd_T47 x0 x4).f0.f0.f2) ((rd_T47 x0 x4).f0.f0.f3) ((rd_T47 x0 x4).f0.f0.f4) ((rd_T47 x0 x4).f0.f0.f5) ((rd_T47 x0 x4).f0.f1.f0) ((rd_T47 x0 x4).f0.f1.f1) ((rd_T47 x0 x4).f0.f2.f0) ((rd_T47 x0 x4).f0.f2.f1) ((rd_T47 x0 x4).f0.f2.f2) ((rd_T47 x0 x4).f0.f3.f0) ((rd_T47 x0 x4).f0.f3.f1) ((rd_T47 x0 x4).f1) ((rd_T47 x0 x4).f2.f0.f0) ((rd_T47 x0 x4).f2.f0.f1) ((rd_T47 x0 x4).f2.f0.f2) ((rd_T47 x0 x4).f2.f0.f3) ((rd_T47 x0 x4).f2.f0.f4) ((rd_T47 x0 x4).f2.f0.f5) ((rd_T47 x0 x4).f2.f1.f0) ((rd_T47 x0 x4).f2.f1.f1) ((rd_T47 x0 x4).f2.f2.f0) ((rd_T47 x0 x4).f2.f2.f1) ((rd_T47 x0 x4).f2.f2.f2) ((rd_T47 x0 x4).f2.f3.f0) ((rd_T47 x0 x4).f2.f3.f1)).bind fun bt734 => (if 0 ≤ x4 then (if x4 < (x3.length : Int) then (laws_toSignS.l0 k x0 (x3.set (x4 : Int).toNat (⟨(⟨(⟨bt734.1, bt734.2.1, bt734.2.2.1, bt734.2.2.2.1, bt734.2.2.2.2.1, bt734.2.2.2.2.2.1⟩ : S33), (⟨bt734.2.2.2.2.2.2.1, bt734.2.2.2.2.2.2.2.1⟩ : S34), (⟨bt734.2.2.2.2.2.2.2.2.1, bt734.2.2.2.2.2.2.2.2.2.1, bt734.2.2.2.2.2.2.2.2.2.2.1⟩ : S35), (⟨bt734.2.2.2.2.2.2.2.2.2.2.2.1, bt734.2.2.2.2.2.2.2.2.2.2.2.2.1⟩ : S36)⟩ : S38), bt734.2.2.2.2.2.2.2.2.2.2.2.2.2.1, (⟨(⟨bt734.2.2.2.2.2.2.2.2.2.2.2.2.2.2.1, bt734.2.2.2.2.2.2.2.2.2.2.2.2.2.2.2.1, bt734.2.2.2.2.2.2.2.2.2.2.2.2.2.2.2.2.1, bt734.2.2.2.2.2.2.2.2.2.2.2.2.2.2.2.2.2.1, bt734.2.2.2.2.2.2.2.2.2.2.2.2.2.2.2.2.2.2.1, bt734.2.2.2.2.2.2.2.2.2.2.2.2.2.2.2.2.2.2.2.1⟩ : S33), (⟨bt734.2.2.2.2.2.2.2.2.2.2.2.2.2.2.2.2.2.2.2.2.1, bt734.2.2.2.2.2.2.2.2.2.2.2.2.2.2.2.2.2.2.2.2.2.1⟩ : S34), (⟨bt734.2.2.2.2.2.2.2.2.2.2.2.2.2.2.2.2.2.2.2.2.2.2.1, bt734.2.2.2.2.2.2.2.2.2.2.2.2.2.2.2.2.2.2.2.2.2.2.2.1, bt734.2.2.2.2.2.2.2.2.2.2.2.2.2.2.2.2.2.2.2.2.2.2.2.2.1⟩ : S35), (⟨bt734.2.2.2.2.2.2.2.2.2.2.2.2.2.2.2.2.2.2.2.2.2.2.2.2.2.1, bt734.2.2.2.2.2.2.2.2.2.2.2.2.2.2.2.2.2.2.2.2.2.2.2.2.2.2⟩ : S36)⟩ : S38)⟩ : S40)) (wrap64 (x4 + 1))) else (none)) else (none))) else (none)) else (none)) else (some x3)

def laws_toSignS.f (k : Nat) (l0 : List (S47)) : Option ((List (S40))) := if 0 ≤ (l0.length : Int) then (if ((l0.length : Int) : Int).toNat ≤ 1213254209959 then (laws_toSignS.l0 k l0 (List.replicate ((l0.length : Int) : Int).toNat z40) 0) else (none)) else (none)

theorem laws_toSignS.mono_l : ∀ k, (∀ y0 y1 y2, LeO (laws_toSignS.l0 k y0 y1 y2) (laws_toSignS.l0 (k + 1) y0 y1 y2))
  | 0 => fun _ _ _ r h => by simp [laws_toSignS.l0] at h
  | k + 1 => by
    have ih0 := laws_toSignS.mono_l k
    · intro y0 y1 y2
      unfold laws_toSignS.l0
      repeat' first
      | (with_reducible exact ih0 _ _ _)
      | (with_reducible exact LeO.refl _)
      | (with_reducible exact LeO.none _)
      | (with_reducible refine LeO.ite ?_ ?_)
      | (with_reducible refine LeO.bind ?_ (fun _ => ?_))
      | exact ih0 _ _ _
      | exact LeO.none _
      | refine LeO.ite ?_ ?_
      | refine LeO.bind ?_ (fun _ => ?_)

theorem laws_toSignS.mono : ∀ a0 k, LeO (laws_toSignS.f k a0) (laws_toSignS.f (k + 1) a0) := by
  intro a0 k
  have ih0 := laws_toSignS.mono_l k
  unfold laws_toSignS.f
  repeat' first
      | (with_reducible exact ih0 _ _ _)
      | (with_reducible exact LeO.refl _)
      | (with_reducible exact LeO.none _)
      | (with_reducible refine LeO.ite ?_ ?_)
      | (with_reducible refine LeO.bind ?_ (fun _ => ?_))
      | exact ih0 _ _ _
      | exact LeO.none _
      | refine LeO.ite ?_ ?_
      | refine LeO.bind ?_ (fun _ => ?_)

def laws_toSignS.e (k : Nat) : Refl.Ent G := ⟨22, [(.c (.row 47 false))], .one (.c (.row 40 true)), fun x => laws_toSignS.f k x⟩
def laws_toSignS.pl0 : Refl.Pn G (Refl.PT G (laws_toSignS.e 0).ol) := ⟨true, 0, ⟨[(0, .v (.c (.row 47 false))), (3, .v (.c (.own 40))), (4, .v (.c li))], []⟩, fun k x => laws_toSignS.l0 k x.1 x.2.1 x.2.2⟩
theorem laws_toSignS.ok (k : Nat) : Refl.EntOK Tryz.prog (laws_toSignS.e k) := Refl.ent_ok 1000000 k GC (fun k => [laws_toSign.e k]) (fun k => ⟨laws_toSign.ok k, trivial⟩) Tryz.func22 (by kernel_rfl) [laws_toSignS.pl0] (ps := [laws_toSignS.pl0]) (by kernel_rfl) ⟨⟨fun x => by kernel_rfl, fun k x => by kernel_rfl⟩, trivial⟩ (fun x => by kernel_rfl)

/-! ### impl_areSigns: function 44 -/

def as1.f (k : Nat) (a0 : Int) (a1 : Int) (a2 : Int) (a3 : Int) (a4 : Int) (a5 : Bool) (a6 : Int) (a7 : Int) (a8 : Int) (a9 : Int) (a10 : Bool) (a11 : ByteArray) (a12 : Int) (a13 : Bool) (a14 : Int) (a15 : Int) (a16 : Int) (a17 : Int) (a18 : Int) (a19 : Bool) (a20 : Int) (a21 : Int) (a22 : Int) (a23 : Int) (a24 : Bool) (a25 : ByteArray) (a26 : Int) : Option Bool := (impl_IsSign.f k a0 a1 a2 a3 a4 a5 a6 a7 a8 a9 a10 a11 a12 a13 a14 a15 a16 a17 a18 a19 a20 a21 a22 a23 a24 a25 a26).bind fun t => some (!t)

def as2.l0 : Nat → List S40 → Int → Int → Option Int
  | 0, _, _, _ => none
  | k + 1, l, n, i => if i < n then (if 0 ≤ i then (if i < (l.length : Int) then ((as1.f k ((rd_T40 l i).f0.f0.f0) ((rd_T40 l i).f0.f0.f1) ((rd_T40 l i).f0.f0.f2) ((rd_T40 l i).f0.f0.f3) ((rd_T40 l i).f0.f0.f4) ((rd_T40 l i).f0.f0.f5) ((rd_T40 l i).f0.f1.f0) ((rd_T40 l i).f0.f1.f1) ((rd_T40 l i).f0.f2.f0) ((rd_T40 l i).f0.f2.f1) ((rd_T40 l i).f0.f2.f2) ((rd_T40 l i).f0.f3.f0) ((rd_T40 l i).f0.f3.f1) ((rd_T40 l i).f1) ((rd_T40 l i).f2.f0.f0) ((rd_T40 l i).f2.f0.f1) ((rd_T40 l i).f2.f0.f2) ((rd_T40 l i).f2.f0.f3) ((rd_T40 l i).f2.f0.f4) ((rd_T40 l i).f2.f0.f5) ((rd_T40 l i).f2.f1.f0) ((rd_T40 l i).f2.f1.f1) ((rd_T40 l i).f2.f2.f0) ((rd_T40 l i).f2.f2.f1) ((rd_T40 l i).f2.f2.f2) ((rd_T40 l i).f2.f3.f0) ((rd_T40 l i).f2.f3.f1)).bind fun t => if t = true then (some i) else (as2.l0 k l n (wrap64 (i + 1)))) else (none)) else (none)) else (some (-1))

def as2.f (k : Nat) (l : List S40) : Option Int := as2.l0 k l (l.length : Int) 0

def as3.f (k : Nat) (l : List S40) : Option Bool := (as2.f k l).bind fun t => some (decide (t ≥ 0))

def as4.f (k : Nat) (l : List S40) : Option Bool := (as3.f k l).bind fun t => some (!t)

def impl_areSigns.f (k : Nat) (l0 : List S40) (a1 : Int) : Option Bool := if (l0.length : Int) ≤ a1 then ((as4.f k l0).bind fun t => some t) else (some false)

theorem as1.mono : ∀ a0 a1 a2 a3 a4 a5 a6 a7 a8 a9 a10 a11 a12 a13 a14 a15 a16 a17 a18 a19 a20 a21 a22 a23 a24 a25 a26 k, LeO (as1.f k a0 a1 a2 a3 a4 a5 a6 a7 a8 a9 a10 a11 a12 a13 a14 a15 a16 a17 a18 a19 a20 a21 a22 a23 a24 a25 a26) (as1.f (k + 1) a0 a1 a2 a3 a4 a5 a6 a7 a8 a9 a10 a11 a12 a13 a14 a15 a16 a17 a18 a19 a20 a21 a22 a23 a24 a25 a26) := by
  intro a0 a1 a2 a3 a4 a5 a6 a7 a8 a9 a10 a11 a12 a13 a14 a15 a16 a17 a18 a19 a20 a21 a22 a23 a24 a25 a26 k
  unfold as1.f
  repeat' first
  | (with_reducible exact impl_IsSign.mono _ _ _ _ _ _ _ _ _ _ _ _ _ _ _ _ _ _ _ _ _ _ _ _ _ _ _ _)
  | exact LeO.refl _
  | exact LeO.none _
  | refine LeO.ite ?_ ?_
  | refine LeO.bind ?_ (fun _ => ?_)

theorem as2.mono_l : ∀ k l n i, LeO (as2.l0 k l n i) (as2.l0 (k + 1) l n i)
  | 0 => fun _ _ _ r h => by simp [as2.l0] at h
  | k + 1 => by
    have ih := as2.mono_l k
    intro l n i
    unfold as2.l0
    repeat' first
    | (with_reducible exact ih _ _ _)
    | (with_reducible exact as1.mono _ _ _ _ _ _ _ _ _ _ _ _ _ _ _ _ _ _ _ _ _ _ _ _ _ _ _ _)
    | exact LeO.refl _
    | exact LeO.none _
    | refine LeO.ite ?_ ?_
    | refine LeO.bind ?_ (fun _ => ?_)

theorem as2.mono : ∀ l k, LeO (as2.f k l) (as2.f (k + 1) l) := by
  intro l k
  unfold as2.f
  repeat' first
  | (with_reducible exact as2.mono_l _ _ _ _)
  | exact LeO.refl _
  | exact LeO.none _
  | refine LeO.ite ?_ ?_
  | refine LeO.bind ?_ (fun _ => ?_)

theorem as3.mono : ∀ l k, LeO (as3.f k l) (as3.f (k + 1) l) := by
  intro l k
  unfold as3.f
  repeat' first
  | (with_reducible exact as2.mono _ _)
  | exact LeO.refl _
  | exact LeO.none _
  | refine LeO.ite ?_ ?_
  | refine LeO.bind ?_ (fun _ => ?_)

theorem as4.mono : ∀ l k, LeO (as4.f k l) (as4.f (k + 1) l) := by
  intro l k
  unfold as4.f
  repeat' first
  | (with_reducible exact as3.mono _ _)
  | exact LeO.refl _
  | exact LeO.none _
  | refine LeO.ite ?_ ?_
  | refine LeO.bind ?_ (fun _ => ?_)

theorem impl_areSigns.mono : ∀ l0 a1 k, LeO (impl_areSigns.f k l0 a1) (impl_areSigns.f (k + 1) l0 a1) := by
  intro l0 a1 k
  unfold impl_areSigns.f
  repeat' first
  | (with_reducible exact as4.mono _ _)
  | exact LeO.refl _
  | exact LeO.none _
  | refine LeO.ite ?_ ?_
  | refine LeO.bind ?_ (fun _ => ?_)

def impl_areSigns.e (k : Nat) : Refl.Ent G := ⟨44, [(.c (.row 40 false)), (.c li)], .one (.c .bool), fun x => impl_areSigns.f k x.1 x.2⟩
def as1.e (k : Nat) : Refl.Ent G := ⟨97, [.agg [li, li, li, li, li, .bool, li, li, li, li, .bool, .str, li, .bool, li, li, li, li, li, .bool, li, li, li, li, .bool, .str, li], .ref [.fn 35]], .one (.c .bool), fun x => as1.f k x.1 x.2.1 x.2.2.1 x.2.2.2.1 x.2.2.2.2.1 x.2.2.2.2.2.1 x.2.2.2.2.2.2.1 x.2.2.2.2.2.2.2.1 x.2.2.2.2.2.2.2.2.1 x.2.2.2.2.2.2.2.2.2.1 x.2.2.2.2.2.2.2.2.2.2.1 x.2.2.2.2.2.2.2.2.2.2.2.1 x.2.2.2.2.2.2.2.2.2.2.2.2.1 x.2.2.2.2.2.2.2.2.2.2.2.2.2.1 x.2.2.2.2.2.2.2.2.2.2.2.2.2.2.1 x.2.2.2.2.2.2.2.2.2.2.2.2.2.2.2.1 x.2.2.2.2.2.2.2.2.2.2.2.2.2.2.2.2.1 x.2.2.2.2.2.2.2.2.2.2.2.2.2.2.2.2.2.1 x.2.2.2.2.2.2.2.2.2.2.2.2.2.2.2.2.2.2.1 x.2.2.2.2.2.2.2.2.2.2.2.2.2.2.2.2.2.2.2.1 x.2.2.2.2.2.2.2.2.2.2.2.2.2.2.2.2.2.2.2.2.1 x.2.2.2.2.2.2.2.2.2.2.2.2.2.2.2.2.2.2.2.2.2.1 x.2.2.2.2.2.2.2.2.2.2.2.2.2.2.2.2.2.2.2.2.2.2.1 x.2.2.2.2.2.2.2.2.2.2.2.2.2.2.2.2.2.2.2.2.2.2.2.1 x.2.2.2.2.2.2.2.2.2.2.2.2.2.2.2.2.2.2.2.2.2.2.2.2.1 x.2.2.2.2.2.2.2.2.2.2.2.2.2.2.2.2.2.2.2.2.2.2.2.2.2.1 x.2.2.2.2.2.2.2.2.2.2.2.2.2.2.2.2.2.2.2.2.2.2.2.2.2.2.1⟩
theorem as1.ok (k : Nat) : Refl.EntOK Tryz.prog (as1.e k) := Refl.ent_ok 1000000 k GC (fun k => [impl_IsSign.e k]) (fun k => ⟨impl_IsSign.ok k, trivial⟩) Tryz.func97 (by kernel_rfl) [] (ps := []) (by kernel_rfl) trivial (fun x => by kernel_rfl)
def as2.e (k : Nat) : Refl.Ent G := ⟨124, [.c (.row 40 false), .clo 97 [[.fn 35]]], .one (.c li), fun x => as2.f k x.1⟩
def as2.p : Refl.Pn G (Refl.PT G (as2.e 0).ol) := ⟨true, 0, ⟨[(0, .v (.c (.row 40 false))), (1, .v (.clo 97 [[.fn 35]])), (7, .v (.c li)), (8, .v (.c li)), (4, .k (.int .i64 0))], []⟩, fun k x => as2.l0 k x.1 x.2.2.1 x.2.2.2⟩
theorem as2.ok (k : Nat) : Refl.EntOK Tryz.prog (as2.e k) := Refl.ent_ok 1000000 k GC (fun k => [as1.e k]) (fun k => ⟨as1.ok k, trivial⟩) Tryz.func124 (by kernel_rfl) [as2.p] (ps := [as2.p]) (by kernel_rfl) ⟨⟨fun x => by kernel_rfl, fun k x => by kernel_rfl⟩, trivial⟩ (fun x => by kernel_rfl)
def as3.e (k : Nat) : Refl.Ent G := ⟨96, [.c (.row 40 false), .clo 97 [[.fn 35]]], .one (.c .bool), fun x => as3.f k x.1⟩
theorem as3.ok (k : Nat) : Refl.EntOK Tryz.prog (as3.e k) := Refl.ent_ok 1000000 k GC (fun k => [as2.e k]) (fun k => ⟨as2.ok k, trivial⟩) Tryz.func96 (by kernel_rfl) [] (ps := []) (by kernel_rfl) trivial (fun x => by kernel_rfl)
def as4.e (k : Nat) : Refl.Ent G := ⟨63, [.c (.row 40 false), .clo 35 []], .one (.c .bool), fun x => as4.f k x⟩
theorem as4.ok (k : Nat) : Refl.EntOK Tryz.prog (as4.e k) := Refl.ent_ok 1000000 k GC (fun k => [as3.e k]) (fun k => ⟨as3.ok k, trivial⟩) Tryz.func63 (by kernel_rfl) [] (ps := []) (by kernel_rfl) trivial (fun x => by kernel_rfl)
theorem impl_areSigns.ok (k : Nat) : Refl.EntOK Tryz.prog (impl_areSigns.e k) := Refl.ent_ok 1000000 k GC (fun k => [as4.e k]) (fun k => ⟨as4.ok k, trivial⟩) Tryz.func44 (by kernel_rfl) [] (ps := []) (by kernel_rfl) trivial (fun x => by kernel_rfl)

/-! ### laws_eqSignS: function 24 -/

def laws_eqSignS.l0 : Nat → List (S40) → List (S40) → Int → Option (Bool)
  | 0, _, _, _ => none
  | k + 1, x0, x1, x5 => if x5 < (x0.length : Int) then (if 0 ≤ x5 then (if x5 < (x0.length : Int) then (if 0 ≤ x5 then (if x5 < (x1.length : Int) then ((laws_eqSign.f ((rd_T40 x0 x5).f0.f0.f0) ((rd_T40 x0 x5).f0.f0.f1) ((rd_T40 x0 x5).f0.f0.f2) ((rd_T40 x0 x5).f0.f0.f3) ((rd_T40 x0 x5).f0.f0.f4) ((rd_T40 x0 x5).f0.f0.f5) ((rd_T40 x0 x5).f0.f1.f0) ((rd_T40 x0 x5).f0.f1.f1) ((rd_T40 x0 x5).f0.f2.f0) ((rd_T40 x0 x5).f0.f2.f1) ((rd_T40 x0 x5).f0.f2.f2) ((rd_T40 x0 x5).f0.f3.f0) ((rd_T40 x0 x5).f0.f3.f1) ((rd_T40 x0 x5).f1) ((rd_T40 x0 x5).f2.f0.f0) ((rd_T40 x0 x5).f2.f0.f1) ((rd_T40 x0 x5).f2.f0.f2) ((rd_T40 x0 x5).f2.f0.f3) ((rd_T40 x0 x5).f2.f0.f4) ((rd_T40 x0 x5).f2.f0.f5) ((rd_T40 x0 x5).f2.f1.f0) ((rd_T40 x0 x5).f2.f1.f1) ((rd_T40 x0 x5).f2.f2.f0) ((rd_T40 x0 x5).f2.f2.f1) ((rd_T40 x0 x5).f2.f2.f2) ((rd_T40 x0 x5).f2.f3.f0) ((rd_T40 x0 x5).f2.f3.f1) ((rd_T40 x1 x5).f0.f0.f0) ((rd_T40 x1 x5).f0.f0.f1) ((rd_T40 x1 x5).f0.f0.f2) ((rd_T40 x1 x5).f0.f0.f3) ((rd_T40 x1 x5).f0.f0.f4) ((rd_T40 x1 x5).f0.f0.f5) ((rd_T40 x1 x5).f0.f1.f0) ((rd_T40 x1 x5).f0.f1.f1) ((rd_T40 x1 x5).f0.f2.f0) ((rd_T40 x1 x5).f0.f2.f1) ((rd_T40 x1 x5).f0.f2.f2) ((rd_T40 x1 x5).f0.f3.f0) ((rd_T40 x1 x5).f0.f3.f1) ((rd_T40 x1 x5).f1) ((rd_T40 x1 x5).f2.f0.f0) ((rd_T40 x1 x5).f2.f0.f1) ((rd_T40 x1 x5).f2.f0.f2) ((rd_T40 x1 x5).f2.f0.f3) ((rd_T40 x1 x5).f2.f0.f4) ((rd_T40 x1 x5).f2.f0.f5) ((rd_T40 x1 x5).f2.f1.f0) ((rd_T40 x1 x5).f2.f1.f1) ((rd_T40 x1 x5).f2.f2.f0) ((rd_T40 x1 x5).f2.f2.f1) ((rd_T40 x1 x5).f2.f2.f2) ((rd_T40 x1 x5).f2.f3.f0) ((rd_T40 x1 x5).f2.f3.f1)).bind fun t771 => (if t771 = true then (laws_eqSignS.l0 k x0 x1 (wrap64 (x5 + 1))) else (some false))) else (none)) else (none)) else (none)) else (none)) else (some true)

def laws_eqSignS.f (k : Nat) (l0 : List (S40)) (l1 : List (S40)) : Option (Bool) := if (l0.length : Int) = (l1.length : Int) then (laws_eqSignS.l0 k l0 l1 0) else (some false)

theorem laws_eqSignS.mono_l : ∀ k, (∀ y0 y1 y2, LeO (laws_eqSignS.l0 k y0 y1 y2) (laws_eqSignS.l0 (k + 1) y0 y1 y2))
  | 0 => fun _ _ _ r h => by simp [laws_eqSignS.l0] at h
  | k + 1 => by
    have ih0 := laws_eqSignS.mono_l k
    · intro y0 y1 y2
      unfold laws_eqSignS.l0
      repeat' first
      | (with_reducible exact ih0 _ _ _)
      | (with_reducible exact LeO.refl _)
      | (with_reducible exact LeO.none _)
      | (with_reducible refine LeO.ite ?_ ?_)
      | (with_reducible refine LeO.bind ?_ (fun _ => ?_))
      | exact ih0 _ _ _
      | exact LeO.none _
      | refine LeO.ite ?_ ?_
      | refine LeO.bind ?_ (fun _ => ?_)

theorem laws_eqSignS.mono : ∀ a0 a1 k, LeO (laws_eqSignS.f k a0 a1) (laws_eqSignS.f (k + 1) a0 a1) := by
  intro a0 a1 k
  have ih0 := laws_eqSignS.mono_l k
  unfold laws_eqSignS.f
  repeat' first
      | (with_reducible exact ih0 _ _ _)
      | (with_reducible exact LeO.refl _)
      | (with_reducible exact LeO.none _)
      | (with_reducible refine LeO.ite ?_ ?_)
      | (with_reducible refine LeO.bind ?_ (fun _ => ?_))
      | exact ih0 _ _ _
      | exact LeO.none _
      | refine LeO.ite ?_ ?_
      | refine LeO.bind ?_ (fun _ => ?_)

def laws_eqSignS.e (k : Nat) : Refl.Ent G := ⟨24, [(.c (.row 40 false)), (.c (.row 40 false))], .one (.c .bool), fun x => laws_eqSignS.f k x.1 x.2⟩
def laws_eqSignS.pl0 : Refl.Pn G (Refl.PT G (laws_eqSignS.e 0).ol) := ⟨true, 0, ⟨[(0, .v (.c (.row 40 false))), (1, .v (.c (.row 40 false))), (5, .v (.c li)), (4, .k (Value.bool false))], []⟩, fun k x => laws_eqSignS.l0 k x.1 x.2.1 x.2.2⟩
theorem laws_eqSignS.ok (k : Nat) : Refl.EntOK Tryz.prog (laws_eqSignS.e k) := Refl.ent_ok 1000000 k GC (fun k => [laws_eqSign.e k]) (fun k => ⟨laws_eqSign.ok k, trivial⟩) Tryz.func24 (by kernel_rfl) [laws_eqSignS.pl0] (ps := [laws_eqSignS.pl0]) (by kernel_rfl) ⟨⟨fun x => by kernel_rfl, fun k x => by kernel_rfl⟩, trivial⟩ (fun x => by kernel_rfl)

end Go.Proofs.YtelldeeokpjchaaGreatDoor.PA
