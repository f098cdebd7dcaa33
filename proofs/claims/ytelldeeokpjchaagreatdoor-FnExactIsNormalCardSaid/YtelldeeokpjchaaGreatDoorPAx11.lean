-- Written by a program of this session (wip/tools/myprint.py). Not trusted: Lean checks it.
import Derived.Test.YtelldeeokpjchaaGreatDoorCtx
import Derived.Test.YtelldeeokpjchaaGreatDoorPAx5
import Derived.Test.YtelldeeokpjchaaGreatDoorPAx6
namespace Go.Proofs.YtelldeeokpjchaaGreatDoor.PA
open Go.RowKit Go.Proofs.YtelldeeokpjchaaGreatDoorW.PrintWords Go.Proofs.YtelldeeokpjchaaGreatDoorW.PrintLast Go.Proofs.YtelldeeokpjchaaGreatDoorW.PrintMore
attribute [local go_sem] max2_int min2_int max_two min_two max_three min_three max_four min_four   -- for this text's walks alone
set_option linter.unusedVariables false
set_option linter.unusedSimpArgs false

/-! ### spec_l1Num: function 118 -/

def spec_l1Num.f : Nat → Int → Option (ByteArray)
  | 0, _ => none
  | k + 1, a0 => if a0 < 10 then (some (strOfNums (([(wrap64 (48 + a0)) % 256] : List Int)))) else ((spec_l1Num.f k (wrap64 (Int.tdiv a0 10))).bind fun t603 => ((some (([(wrap64 (48 + (Int.tmod a0 10))) % 256] : List Int) : List Int)).bind fun y604 => (if t603.size + (strOfNums y604).size ≤ 9223372036854775807 then (some (t603 ++ (strOfNums y604))) else (none))))

theorem spec_l1Num.mono_l : ∀ k, (∀ y0, LeO (spec_l1Num.f k y0) (spec_l1Num.f (k + 1) y0))
  | 0 => fun _ r h => by simp [spec_l1Num.f] at h
  | k + 1 => by
    have ih0 := spec_l1Num.mono_l k
    · intro y0
      unfold spec_l1Num.f
      repeat' first
      | (with_reducible exact ih0 _)
      | (with_reducible exact LeO.refl _)
      | (with_reducible exact LeO.none _)
      | (with_reducible refine LeO.ite ?_ ?_)
      | (with_reducible refine LeO.bind ?_ (fun _ => ?_))
      | exact ih0 _
      | exact LeO.none _
      | refine LeO.ite ?_ ?_
      | refine LeO.bind ?_ (fun _ => ?_)

theorem spec_l1Num.mono : ∀ a0 k, LeO (spec_l1Num.f k a0) (spec_l1Num.f (k + 1) a0) := by
  intro a0 k
  have ih0 := spec_l1Num.mono_l k
  exact ih0 a0

def spec_l1Num.e (k : Nat) : Refl.Ent G := ⟨118, [(.c li)], .one (.c .str), fun x => spec_l1Num.f k x⟩
theorem spec_l1Num.ok : ∀ k : Nat, Refl.EntOK Tryz.prog (spec_l1Num.e k)
 | 0 => Refl.entOK_none Tryz.func118 (by kernel_rfl) (fun x => by kernel_rfl)
 | k + 1 => Refl.ent_ok 1000000 0 GC (fun _ => [spec_l1Num.e k]) (fun _ => ⟨spec_l1Num.ok k, trivial⟩) Tryz.func118 (by kernel_rfl) [] (ps := []) (by kernel_rfl) trivial (fun x => by kernel_rfl)

/-! ### spec_shText: function 86 -/

def spec_shText.l0 : Nat → ByteArray → List Int → Int → Int → Int → Int → Int → Int → Int → Bool → Option (ByteArray)
  | 0, _, _, _, _, _, _, _, _, _, _ => none
  | k + 1, x3, x10, x11, x12, x608000, x608001, x608002, x608003, x608004, x608005 => if x12 < x11 then (if 0 ≤ x12 then (if x12 < (x10.length : Int) then ((spec_l1Num.f k (rd x10 x12)).bind fun t613 => (if x3.size + t613.size ≤ 9223372036854775807 then (spec_shText.l0 k (x3 ++ t613) x10 x11 (wrap64 (x12 + 1)) x608000 x608001 x608002 x608003 x608004 x608005) else (none))) else (none)) else (none)) else (if x608005 = true then (if x3.size + 1 ≤ 9223372036854775807 then (some (x3 ++ (⟨#[115]⟩ : ByteArray))) else (none)) else (some x3))

def spec_shText.f (k : Nat) (a0_0 : Int) (a0_1 : Int) (a0_2 : Int) (a0_3 : Int) (a0_4 : Int) (a0_5 : Bool) : Option (ByteArray) := (spec_l1Num.f k a0_0).bind fun t608 => ((spec_shFingers.f a0_0 a0_1 a0_2 a0_3 a0_4 a0_5).bind fun t609 => (spec_shText.l0 k t608 t609 (t609.length : Int) 0 a0_0 a0_1 a0_2 a0_3 a0_4 a0_5))

theorem spec_shText.mono_l : ∀ k, (∀ y0 y1 y2 y3 y4 y5 y6 y7 y8 y9, LeO (spec_shText.l0 k y0 y1 y2 y3 y4 y5 y6 y7 y8 y9) (spec_shText.l0 (k + 1) y0 y1 y2 y3 y4 y5 y6 y7 y8 y9))
  | 0 => fun _ _ _ _ _ _ _ _ _ _ r h => by simp [spec_shText.l0] at h
  | k + 1 => by
    have ih0 := spec_shText.mono_l k
    · intro y0 y1 y2 y3 y4 y5 y6 y7 y8 y9
      unfold spec_shText.l0
      repeat' first
      | (with_reducible exact ih0 _ _ _ _ _ _ _ _ _ _)
      | (with_reducible exact spec_l1Num.mono _ _)
      | (with_reducible exact LeO.refl _)
      | (with_reducible exact LeO.none _)
      | (with_reducible refine LeO.ite ?_ ?_)
      | (with_reducible refine LeO.bind ?_ (fun _ => ?_))
      | exact ih0 _ _ _ _ _ _ _ _ _ _
      | exact spec_l1Num.mono _ _
      | exact LeO.none _
      | refine LeO.ite ?_ ?_
      | refine LeO.bind ?_ (fun _ => ?_)

theorem spec_shText.mono : ∀ a0 a1 a2 a3 a4 a5 k, LeO (spec_shText.f k a0 a1 a2 a3 a4 a5) (spec_shText.f (k + 1) a0 a1 a2 a3 a4 a5) := by
  intro a0 a1 a2 a3 a4 a5 k
  have ih0 := spec_shText.mono_l k
  unfold spec_shText.f
  repeat' first
      | (with_reducible exact ih0 _ _ _ _ _ _ _ _ _ _)
      | (with_reducible exact spec_l1Num.mono _ _)
      | (with_reducible exact LeO.refl _)
      | (with_reducible exact LeO.none _)
      | (with_reducible refine LeO.ite ?_ ?_)
      | (with_reducible refine LeO.bind ?_ (fun _ => ?_))
      | exact ih0 _ _ _ _ _ _ _ _ _ _
      | exact spec_l1Num.mono _ _
      | exact LeO.none _
      | refine LeO.ite ?_ ?_
      | refine LeO.bind ?_ (fun _ => ?_)

def spec_shText.e (k : Nat) : Refl.Ent G := ⟨86, [(.agg [li, li, li, li, li, .bool])], .one (.c .str), fun x => spec_shText.f k x.1 x.2.1 x.2.2.1 x.2.2.2.1 x.2.2.2.2.1 x.2.2.2.2.2⟩
def spec_shText.pl0 : Refl.Pn G (Refl.PT G (spec_shText.e 0).ol) := ⟨true, 0, ⟨[(3, .v (.c .str)), (10, .v (.c (.row 3 false))), (11, .v (.c li)), (12, .v (.c li)), (1, .box 1 0)], [(1, 33, gL6)]⟩, fun k x => spec_shText.l0 k x.1 x.2.1 x.2.2.1 x.2.2.2.1 x.2.2.2.2.1 x.2.2.2.2.2.1 x.2.2.2.2.2.2.1 x.2.2.2.2.2.2.2.1 x.2.2.2.2.2.2.2.2.1 x.2.2.2.2.2.2.2.2.2⟩
theorem spec_shText.ok (k : Nat) : Refl.EntOK Tryz.prog (spec_shText.e k) := Refl.ent_ok 1000000 k GC (fun k => [spec_l1Num.e k, spec_shFingers.e k]) (fun k => ⟨spec_l1Num.ok k, spec_shFingers.ok k, trivial⟩) Tryz.func86 (by kernel_rfl) [spec_shText.pl0] (ps := [spec_shText.pl0]) (by kernel_rfl) ⟨⟨fun x => by kernel_rfl, fun k x => by kernel_rfl⟩, trivial⟩ (fun x => by kernel_rfl)

/-! ### spec_orText: function 87 -/

def spec_orText.f (a0_0 : Int) (a0_1 : Int) : Option (ByteArray) := if 0 ≤ a0_0 then (if a0_0 ≤ (wrap64 (a0_0 + 1)) then (if (wrap64 (a0_0 + 1)) ≤ 6 then (if 0 ≤ a0_1 then (if a0_1 ≤ (wrap64 (a0_1 + 1)) then (if (wrap64 (a0_1 + 1)) ≤ 6 then (if ((⟨#[117, 100, 108, 114, 102, 98]⟩ : ByteArray).extract (a0_0 : Int).toNat ((wrap64 (a0_0 + 1)) : Int).toNat).size + ((⟨#[117, 100, 108, 114, 102, 98]⟩ : ByteArray).extract (a0_1 : Int).toNat ((wrap64 (a0_1 + 1)) : Int).toNat).size ≤ 9223372036854775807 then (some (((⟨#[117, 100, 108, 114, 102, 98]⟩ : ByteArray).extract (a0_0 : Int).toNat ((wrap64 (a0_0 + 1)) : Int).toNat) ++ ((⟨#[117, 100, 108, 114, 102, 98]⟩ : ByteArray).extract (a0_1 : Int).toNat ((wrap64 (a0_1 + 1)) : Int).toNat))) else (none)) else (none)) else (none)) else (none)) else (none)) else (none)) else (none)

def spec_orText.e (k : Nat) : Refl.Ent G := ⟨87, [(.agg [li, li])], .one (.c .str), fun x => spec_orText.f x.1 x.2⟩
theorem spec_orText.ok (k : Nat) : Refl.EntOK Tryz.prog (spec_orText.e k) := Refl.ent_ok 1000000 k GC (fun k => []) (fun k => trivial) Tryz.func87 (by kernel_rfl) [] (ps := []) (by kernel_rfl) trivial (fun x => by kernel_rfl)

/-! ### spec_plNames: function 119 -/

def spec_plNames.f  : Option (List ByteArray) := some (([(⟨#[115, 112, 97, 99, 101]⟩ : ByteArray), (⟨#[104, 101, 97, 100]⟩ : ByteArray), (⟨#[101, 121, 101]⟩ : ByteArray), (⟨#[99, 104, 101, 101, 107]⟩ : ByteArray), (⟨#[109, 111, 117, 116, 104]⟩ : ByteArray), (⟨#[99, 104, 105, 110]⟩ : ByteArray), (⟨#[110, 101, 99, 107]⟩ : ByteArray), (⟨#[99, 104, 101, 115, 116]⟩ : ByteArray), (⟨#[119, 97, 105, 115, 116]⟩ : ByteArray), (⟨#[104, 105, 112]⟩ : ByteArray)] : List ByteArray))

def spec_plNames.e (k : Nat) : Refl.Ent G := ⟨119, [], .one (.c (.row 9 true)), fun _ => spec_plNames.f ⟩
theorem spec_plNames.ok (k : Nat) : Refl.EntOK Tryz.prog (spec_plNames.e k) := Refl.ent_ok 1000000 k GC (fun k => []) (fun k => trivial) Tryz.func119 (by kernel_rfl) [] (ps := []) (by kernel_rfl) trivial (fun x => by kernel_rfl)

/-! ### spec_plText: function 88 -/

def spec_plText.f (a0_0 : Int) (a0_1 : Int) (a0_2 : Bool) : Option (ByteArray) := (spec_plNames.f).bind fun t619 => (if 0 ≤ a0_0 then (if a0_0 < (t619.length : Int) then (if a0_1 = (-1) then (if (rdOf ByteArray.empty t619 a0_0).size + 1 ≤ 9223372036854775807 then (if a0_2 = true then (if ((rdOf ByteArray.empty t619 a0_0) ++ (⟨#[60]⟩ : ByteArray)).size + 1 ≤ 9223372036854775807 then (some (((rdOf ByteArray.empty t619 a0_0) ++ (⟨#[60]⟩ : ByteArray)) ++ (⟨#[42]⟩ : ByteArray))) else (none)) else (some ((rdOf ByteArray.empty t619 a0_0) ++ (⟨#[60]⟩ : ByteArray)))) else (none)) else (if a0_1 = 1 then (if (rdOf ByteArray.empty t619 a0_0).size + 1 ≤ 9223372036854775807 then (if a0_2 = true then (if ((rdOf ByteArray.empty t619 a0_0) ++ (⟨#[62]⟩ : ByteArray)).size + 1 ≤ 9223372036854775807 then (some (((rdOf ByteArray.empty t619 a0_0) ++ (⟨#[62]⟩ : ByteArray)) ++ (⟨#[42]⟩ : ByteArray))) else (none)) else (some ((rdOf ByteArray.empty t619 a0_0) ++ (⟨#[62]⟩ : ByteArray)))) else (none)) else (if a0_2 = true then (if (rdOf ByteArray.empty t619 a0_0).size + 1 ≤ 9223372036854775807 then (some ((rdOf ByteArray.empty t619 a0_0) ++ (⟨#[42]⟩ : ByteArray))) else (none)) else (some (rdOf ByteArray.empty t619 a0_0))))) else (none)) else (none))

def spec_plText.e (k : Nat) : Refl.Ent G := ⟨88, [(.agg [li, li, .bool])], .one (.c .str), fun x => spec_plText.f x.1 x.2.1 x.2.2⟩
theorem spec_plText.ok (k : Nat) : Refl.EntOK Tryz.prog (spec_plText.e k) := Refl.ent_ok 1000000 k GC (fun k => [spec_plNames.e k]) (fun k => ⟨spec_plNames.ok k, trivial⟩) Tryz.func88 (by kernel_rfl) [] (ps := []) (by kernel_rfl) trivial (fun x => by kernel_rfl)

/-! ### spec_mvText: function 89 -/

def spec_mvText.f (k : Nat) (a0_0 : ByteArray) (a0_1 : Int) : Option (ByteArray) := if a0_0.toList = ([] : List UInt8) then (some (⟨#[45]⟩ : ByteArray)) else (if a0_1 > 1 then (if a0_0.size + 1 ≤ 9223372036854775807 then ((spec_l1Num.f k a0_1).bind fun t624 => (if (a0_0 ++ (⟨#[42]⟩ : ByteArray)).size + t624.size ≤ 9223372036854775807 then (some ((a0_0 ++ (⟨#[42]⟩ : ByteArray)) ++ t624)) else (none))) else (none)) else (some a0_0))

theorem spec_mvText.mono : ∀ a0 a1 k, LeO (spec_mvText.f k a0 a1) (spec_mvText.f (k + 1) a0 a1) := by
  intro a0 a1 k
  unfold spec_mvText.f
  repeat' first
      | (with_reducible exact spec_l1Num.mono _ _)
      | (with_reducible exact LeO.refl _)
      | (with_reducible exact LeO.none _)
      | (with_reducible refine LeO.ite ?_ ?_)
      | (with_reducible refine LeO.bind ?_ (fun _ => ?_))
      | exact spec_l1Num.mono _ _
      | exact LeO.none _
      | refine LeO.ite ?_ ?_
      | refine LeO.bind ?_ (fun _ => ?_)

def spec_mvText.e (k : Nat) : Refl.Ent G := ⟨89, [(.agg [.str, li])], .one (.c .str), fun x => spec_mvText.f k x.1 x.2⟩
theorem spec_mvText.ok (k : Nat) : Refl.EntOK Tryz.prog (spec_mvText.e k) := Refl.ent_ok 1000000 k GC (fun k => [spec_l1Num.e k]) (fun k => ⟨spec_l1Num.ok k, trivial⟩) Tryz.func89 (by kernel_rfl) [] (ps := []) (by kernel_rfl) trivial (fun x => by kernel_rfl)

/-! ### spec_siText: function 60 -/

def spec_siText.f (k : Nat) (a0_0 : Int) (a0_1 : Int) (a0_2 : Int) (a0_3 : Int) (a0_4 : Int) (a0_5 : Bool) (a0_6 : Int) (a0_7 : Int) (a0_8 : Int) (a0_9 : Int) (a0_10 : Bool) (a0_11 : ByteArray) (a0_12 : Int) : Option (ByteArray) := (spec_shText.f k a0_0 a0_1 a0_2 a0_3 a0_4 a0_5).bind fun t626 => (if t626.size + 1 ≤ 9223372036854775807 then ((spec_orText.f a0_6 a0_7).bind fun t627 => (if (t626 ++ (⟨#[47]⟩ : ByteArray)).size + t627.size ≤ 9223372036854775807 then (if ((t626 ++ (⟨#[47]⟩ : ByteArray)) ++ t627).size + 1 ≤ 9223372036854775807 then ((spec_plText.f a0_8 a0_9 a0_10).bind fun t628 => (if (((t626 ++ (⟨#[47]⟩ : ByteArray)) ++ t627) ++ (⟨#[47]⟩ : ByteArray)).size + t628.size ≤ 9223372036854775807 then (if ((((t626 ++ (⟨#[47]⟩ : ByteArray)) ++ t627) ++ (⟨#[47]⟩ : ByteArray)) ++ t628).size + 1 ≤ 9223372036854775807 then ((spec_mvText.f k a0_11 a0_12).bind fun t629 => (if (((((t626 ++ (⟨#[47]⟩ : ByteArray)) ++ t627) ++ (⟨#[47]⟩ : ByteArray)) ++ t628) ++ (⟨#[47]⟩ : ByteArray)).size + t629.size ≤ 9223372036854775807 then (some ((((((t626 ++ (⟨#[47]⟩ : ByteArray)) ++ t627) ++ (⟨#[47]⟩ : ByteArray)) ++ t628) ++ (⟨#[47]⟩ : ByteArray)) ++ t629)) else (none))) else (none)) else (none))) else (none)) else (none))) else (none))

theorem spec_siText.mono : ∀ a0 a1 a2 a3 a4 a5 a6 a7 a8 a9 a10 a11 a12 k, LeO (spec_siText.f k a0 a1 a2 a3 a4 a5 a6 a7 a8 a9 a10 a11 a12) (spec_siText.f (k + 1) a0 a1 a2 a3 a4 a5 a6 a7 a8 a9 a10 a11 a12) := by
  intro a0 a1 a2 a3 a4 a5 a6 a7 a8 a9 a10 a11 a12 k
  unfold spec_siText.f
  repeat' first
      | (with_reducible exact spec_mvText.mono _ _ _)
      | (with_reducible exact spec_shText.mono _ _ _ _ _ _ _)
      | (with_reducible exact LeO.refl _)
      | (with_reducible exact LeO.none _)
      | (with_reducible refine LeO.ite ?_ ?_)
      | (with_reducible refine LeO.bind ?_ (fun _ => ?_))
      | exact spec_mvText.mono _ _ _
      | exact spec_shText.mono _ _ _ _ _ _ _
      | exact LeO.none _
      | refine LeO.ite ?_ ?_
      | refine LeO.bind ?_ (fun _ => ?_)

def spec_siText.e (k : Nat) : Refl.Ent G := ⟨60, [(.agg gL0)], .one (.c .str), fun x => spec_siText.f k x.1 x.2.1 x.2.2.1 x.2.2.2.1 x.2.2.2.2.1 x.2.2.2.2.2.1 x.2.2.2.2.2.2.1 x.2.2.2.2.2.2.2.1 x.2.2.2.2.2.2.2.2.1 x.2.2.2.2.2.2.2.2.2.1 x.2.2.2.2.2.2.2.2.2.2.1 x.2.2.2.2.2.2.2.2.2.2.2.1 x.2.2.2.2.2.2.2.2.2.2.2.2⟩
theorem spec_siText.ok (k : Nat) : Refl.EntOK Tryz.prog (spec_siText.e k) := Refl.ent_ok 1000000 k GC (fun k => [spec_shText.e k, spec_orText.e k, spec_plText.e k, spec_mvText.e k]) (fun k => ⟨spec_shText.ok k, spec_orText.ok k, spec_plText.ok k, spec_mvText.ok k, trivial⟩) Tryz.func60 (by kernel_rfl) [] (ps := []) (by kernel_rfl) trivial (fun x => by kernel_rfl)

/-! ### strings_Join: function 90 -/

def strings_Join.f (l0 : List ByteArray) (a1 : ByteArray) : Option ByteArray :=
  if l0.length ≤ 140737488355328 ∧ (Lib.join (l0.map (·.data.toList)) a1.data.toList).length ≤ 140737488355328 then some ⟨(Lib.join (l0.map (·.data.toList)) a1.data.toList).toArray⟩ else none

def strings_Join.e (k : Nat) : Refl.Ent G := ⟨90, [(.c (.row 9 false)), (.c .str)], .one (.c .str), fun x => strings_Join.f x.1 x.2⟩
theorem join_enc : ∀ (xs : List ByteArray) (j : Nat), (xs.flatMap rkStr.enc)[j]? = xs[j]?.map fun x => Value.string x
  | [], _ => by simp
  | x :: xs, 0 => rfl
  | x :: xs, j + 1 => by
    have := join_enc xs j
    simpa [rkStr] using this
theorem join_calls (xs : List ByteArray) (sep y : ByteArray) (h : strings_Join.f xs sep = some y) (S : Nat → Nat → Prop) (w : World) (y0 y1 : Value) (h0 : Refl.RowRep w.heap.size S Refl.μ0 w rkStr 9 xs .ro y0) (h1 : y1 = .string sep) :
    Calls Tryz.prog 90 #[y0, y1] w fun en w' => en = .returned (.string y) ∧ Below w.heap.size w w' := by
  unfold strings_Join.f at h
  split at h
  · rename_i hc
    obtain rfl := Option.some.inj h
    obtain ⟨A, c, rfl, g1, g2, g3, _⟩ := h0
    subst h1
    cases xs with
    | nil => exact (Tryz.strings_Join_none A c sep w).mono fun e w' hh => ⟨hh.1, hh.2 ▸ Below.refl _ _⟩
    | cons x xs =>
      obtain ⟨b, off, rfl, hcell⟩ := g3 (by simp)
      refine Tryz.strings_Join b off c (x :: xs) sep w (fun j z hj => ?_) ?_ hc.1 g1 hc.2
      · exact (hcell j (.string z) (by rw [join_enc, hj]; rfl)).1
      · exact Refl.lt_of_cell (hcell 0 (.string x) (by rw [join_enc]; rfl)).1
  · cases h
theorem strings_Join.ok (k : Nat) : Refl.EntOK Tryz.prog (strings_Join.e k) := Refl.entOK_rep Tryz.func90 (by kernel_rfl) (fun y => ⟨by kernel_rfl, by kernel_rfl, by kernel_rfl, by kernel_rfl⟩) (fun x y h S w vals hv => by
  cases vals with
  | nil => exact hv.elim
  | cons y0 vals =>
    cases vals with
    | nil => exact hv.2.elim
    | cons y1 vals =>
      cases vals with
      | cons _ _ => exact hv.2.2.elim
      | nil => exact join_calls x.1 x.2 y h S w y0 y1 hv.1 hv.2.1)

/-! ### impl_Orient_text: function 92 -/

def impl_Orient_text.f (a0_0 : Int) (a0_1 : Int) : Option (ByteArray) := if 0 ≤ a0_0 then (if a0_0 ≤ (wrap64 (a0_0 + 1)) then (if (wrap64 (a0_0 + 1)) ≤ 6 then (if 0 ≤ a0_1 then (if a0_1 ≤ (wrap64 (a0_1 + 1)) then (if (wrap64 (a0_1 + 1)) ≤ 6 then (if ((⟨#[117, 100, 108, 114, 102, 98]⟩ : ByteArray).extract (a0_0 : Int).toNat ((wrap64 (a0_0 + 1)) : Int).toNat).size + ((⟨#[117, 100, 108, 114, 102, 98]⟩ : ByteArray).extract (a0_1 : Int).toNat ((wrap64 (a0_1 + 1)) : Int).toNat).size ≤ 9223372036854775807 then (some (((⟨#[117, 100, 108, 114, 102, 98]⟩ : ByteArray).extract (a0_0 : Int).toNat ((wrap64 (a0_0 + 1)) : Int).toNat) ++ ((⟨#[117, 100, 108, 114, 102, 98]⟩ : ByteArray).extract (a0_1 : Int).toNat ((wrap64 (a0_1 + 1)) : Int).toNat))) else (none)) else (none)) else (none)) else (none)) else (none)) else (none)) else (none)

def impl_Orient_text.e (k : Nat) : Refl.Ent G := ⟨92, [(.agg [li, li])], .one (.c .str), fun x => impl_Orient_text.f x.1 x.2⟩
theorem impl_Orient_text.ok (k : Nat) : Refl.EntOK Tryz.prog (impl_Orient_text.e k) := Refl.ent_ok 1000000 k GC (fun k => []) (fun k => trivial) Tryz.func92 (by kernel_rfl) [] (ps := []) (by kernel_rfl) trivial (fun x => by kernel_rfl)

/-! ### impl_Place_text: function 93 -/

def impl_Place_text.f (a0_0 : Int) (a0_1 : Int) (a0_2 : Bool) : Option ByteArray :=
  if 0 ≤ a0_0 ∧ a0_0 < 10 ∧ -1 ≤ a0_1 ∧ a0_1 ≤ 1 then some (plNms.getD a0_0.toNat ⟨#[]⟩ ++ plSide a0_1 ++ (if a0_2 = true then ⟨#[42]⟩ else ⟨#[]⟩)) else none
set_option maxHeartbeats 4000000 in
set_option maxRecDepth 100000 in
theorem plText_walk (k : Nat) (a0_1 : Int) (b : Bool) (w : World) (h1 : k < 10) (h2 : -1 ≤ a0_1) (h3 : a0_1 ≤ 1) :
    Calls Tryz.prog 93 #[.agg #[.int .i64 (k : Int), .int .i64 a0_1, .bool b]] w fun e w' => e = .returned (.string (plNms.getD k ⟨#[]⟩ ++ plSide a0_1 ++ (if b = true then ⟨#[42]⟩ else ⟨#[]⟩))) ∧ Below w.heap.size w w' := by
  have hc : ∀ o, ((w.alloc o).alloc (Obj.cells #[Value.string { data := #[115, 112, 97, 99, 101] }, Value.string { data := #[104, 101, 97, 100] }, Value.string { data := #[101, 121, 101] }, Value.string { data := #[99, 104, 101, 101, 107] }, Value.string { data := #[109, 111, 117, 116, 104] }, Value.string { data := #[99, 104, 105, 110] }, Value.string { data := #[110, 101, 99, 107] }, Value.string { data := #[99, 104, 101, 115, 116] }, Value.string { data := #[119, 97, 105, 115, 116] }, Value.string { data := #[104, 105, 112] }] 136)).cell? ⟨w.heap.size + 1, k, none⟩ = some (.string (plNms.getD k ⟨#[]⟩)) := fun o => by
    have := arr_cell (w.alloc o) _ 136 k _ (plNms_at k h1)
    rwa [World.size_alloc] at this
  have hi : ∀ (W : World) g, (Instr.indexAt 136 (.pointer (some ⟨g, 0, none⟩)) (.int .i64 (k : Int))).run Tryz.prog W = .ok (.pointer (some ⟨g, k, none⟩)) W := by
    intro W g
    rw [run_indexAt_array (h := Tryz.underlying136), if_pos ⟨by omega, by show (k : Int) < 10; omega⟩]
    show Result.ok _ _ = _
    show Result.ok (Value.pointer (some ((⟨g, 0, none⟩ : Addr).add (k * 1)))) W = _
    rw [Nat.mul_one, add_plain]
  have hn := plNms_size k
  generalize plNms.getD k ⟨#[]⟩ = nm at *
  have t0 := decide_eq_true (show nm.size ≤ 9223372036854775807 by omega)
  have u0 := eq_false (show ¬ (9223372036854775807 < nm.size) by omega)
  have t1 := decide_eq_true (show nm.size + 1 ≤ 9223372036854775807 by omega)
  have u1 := eq_false (show ¬ (9223372036854775807 < nm.size + 1) by omega)
  have t2 := decide_eq_true (show nm.size + 1 + 1 ≤ 9223372036854775807 by omega)
  have u2 := eq_false (show ¬ (9223372036854775807 < nm.size + 1 + 1) by omega)
  have h4 : a0_1 = -1 ∨ a0_1 = 0 ∨ a0_1 = 1 := by omega
  have i0 : ∀ W : World, (Instr.index 137 (.agg #[.string { data := #[60] }, .string { data := #[] }, .string { data := #[62] }]) (.int .i64 0)).run Tryz.prog W = .ok (.string { data := #[60] }) W := fun _ => by kernel_rfl
  have i1 : ∀ W : World, (Instr.index 137 (.agg #[.string { data := #[60] }, .string { data := #[] }, .string { data := #[62] }]) (.int .i64 1)).run Tryz.prog W = .ok (.string { data := #[] }) W := fun _ => by kernel_rfl
  have i2 : ∀ W : World, (Instr.index 137 (.agg #[.string { data := #[60] }, .string { data := #[] }, .string { data := #[62] }]) (.int .i64 2)).run Tryz.prog W = .ok (.string { data := #[62] }) W := fun _ => by kernel_rfl
  have r0 : IntKind.i64.wrap 0 = 0 := rfl
  have r1 : IntKind.i64.wrap 1 = 1 := rfl
  have r2 : IntKind.i64.wrap 2 = 2 := rfl
  clear h2 h3 h1 hn
  rcases h4 with rfl | rfl | rfl <;> cases b
  all_goals
    go_enter Tryz.func93, Tryz.ntmps93
    go_wp2
    go_quiet (fail)
    go_wp2
    go_ret
    exact ⟨by simp [plSide, bs_app_nil], by repeat (first | exact Below.refl _ _ | apply pw_below_drewN | apply below_drew1 | apply below_alloc)⟩
theorem impl_Place_text.calls (a0_0 : Int) (a0_1 : Int) (a0_2 : Bool) (r : ByteArray) (w : World) (h : impl_Place_text.f a0_0 a0_1 a0_2 = some r) :
    Calls Tryz.prog 93 #[.agg #[.int .i64 a0_0, .int .i64 a0_1, .bool a0_2]] w fun e w' => e = .returned (.string r) ∧ Below w.heap.size w w' := by
  unfold impl_Place_text.f at h
  split at h
  · rename_i hc
    obtain rfl := Option.some.inj h
    obtain ⟨k, rfl⟩ := Int.eq_ofNat_of_zero_le hc.1
    exact plText_walk k a0_1 a0_2 w (by omega) hc.2.2.1 hc.2.2.2
  · exact absurd h (by simp)

def impl_Place_text.e (k : Nat) : Refl.Ent G := ⟨93, [(.agg [li, li, .bool])], .one (.c .str), fun x => impl_Place_text.f x.1 x.2.1 x.2.2⟩
theorem impl_Place_text.ok (k : Nat) : Refl.EntOK Tryz.prog (impl_Place_text.e k) := Refl.entOK_hand Tryz.func93 (by kernel_rfl) (fun x => by kernel_rfl) (fun y => ⟨by kernel_rfl, by kernel_rfl, by kernel_rfl, by kernel_rfl⟩) (fun x y h w => (impl_Place_text.calls x.1 x.2.1 x.2.2 y w h).mono fun e w' hh => ⟨hh.1, hh.2⟩)

/-! ### impl_Move_text: function 94 -/

def impl_Move_text.f (a0_0 : ByteArray) (a0_1 : Int) : Option (ByteArray) := if a0_0.toList = ([] : List UInt8) then (some (⟨#[45]⟩ : ByteArray)) else (if a0_1 = 1 then (some a0_0) else (if a0_0.size + 1 ≤ 9223372036854775807 then ((strconv_Itoa.f a0_1).bind fun t639 => (if (a0_0 ++ (⟨#[42]⟩ : ByteArray)).size + t639.size ≤ 9223372036854775807 then (some ((a0_0 ++ (⟨#[42]⟩ : ByteArray)) ++ t639)) else (none))) else (none)))

def impl_Move_text.e (k : Nat) : Refl.Ent G := ⟨94, [(.agg [.str, li])], .one (.c .str), fun x => impl_Move_text.f x.1 x.2⟩
theorem impl_Move_text.ok (k : Nat) : Refl.EntOK Tryz.prog (impl_Move_text.e k) := Refl.ent_ok 1000000 k GC (fun k => [strconv_Itoa.e k]) (fun k => ⟨strconv_Itoa.ok k, trivial⟩) Tryz.func94 (by kernel_rfl) [] (ps := []) (by kernel_rfl) trivial (fun x => by kernel_rfl)

/-! ### impl_Hand_text: function 61 -/

def impl_Hand_text.f (k : Nat) (a0_0 : Int) (a0_1 : Int) (a0_2 : Int) (a0_3 : Int) (a0_4 : Int) (a0_5 : Bool) (a0_6 : Int) (a0_7 : Int) (a0_8 : Int) (a0_9 : Int) (a0_10 : Bool) (a0_11 : ByteArray) (a0_12 : Int) : Option (ByteArray) := (impl_Shape_text.f k a0_0 a0_1 a0_2 a0_3 a0_4 a0_5).bind fun t641 => ((impl_Orient_text.f a0_6 a0_7).bind fun t642 => ((impl_Place_text.f a0_8 a0_9 a0_10).bind fun t643 => ((impl_Move_text.f a0_11 a0_12).bind fun t644 => ((strings_Join.f (([t641, t642, t643, t644] : List ByteArray)) (⟨#[47]⟩ : ByteArray)).bind fun t648 => (some t648)))))

theorem impl_Hand_text.mono : ∀ a0 a1 a2 a3 a4 a5 a6 a7 a8 a9 a10 a11 a12 k, LeO (impl_Hand_text.f k a0 a1 a2 a3 a4 a5 a6 a7 a8 a9 a10 a11 a12) (impl_Hand_text.f (k + 1) a0 a1 a2 a3 a4 a5 a6 a7 a8 a9 a10 a11 a12) := by
  intro a0 a1 a2 a3 a4 a5 a6 a7 a8 a9 a10 a11 a12 k
  unfold impl_Hand_text.f
  repeat' first
      | (with_reducible exact impl_Shape_text.mono _ _ _ _ _ _ _)
      | (with_reducible exact LeO.refl _)
      | (with_reducible exact LeO.none _)
      | (with_reducible refine LeO.ite ?_ ?_)
      | (with_reducible refine LeO.bind ?_ (fun _ => ?_))
      | exact impl_Shape_text.mono _ _ _ _ _ _ _
      | exact LeO.none _
      | refine LeO.ite ?_ ?_
      | refine LeO.bind ?_ (fun _ => ?_)

def impl_Hand_text.e (k : Nat) : Refl.Ent G := ⟨61, [(.agg gL0)], .one (.c .str), fun x => impl_Hand_text.f k x.1 x.2.1 x.2.2.1 x.2.2.2.1 x.2.2.2.2.1 x.2.2.2.2.2.1 x.2.2.2.2.2.2.1 x.2.2.2.2.2.2.2.1 x.2.2.2.2.2.2.2.2.1 x.2.2.2.2.2.2.2.2.2.1 x.2.2.2.2.2.2.2.2.2.2.1 x.2.2.2.2.2.2.2.2.2.2.2.1 x.2.2.2.2.2.2.2.2.2.2.2.2⟩
theorem impl_Hand_text.ok (k : Nat) : Refl.EntOK Tryz.prog (impl_Hand_text.e k) := Refl.ent_ok 1000000 k GC (fun k => [impl_Shape_text.e k, impl_Orient_text.e k, impl_Place_text.e k, impl_Move_text.e k, strings_Join.e k]) (fun k => ⟨impl_Shape_text.ok k, impl_Orient_text.ok k, impl_Place_text.ok k, impl_Move_text.ok k, strings_Join.ok k, trivial⟩) Tryz.func61 (by kernel_rfl) [] (ps := []) (by kernel_rfl) trivial (fun x => by kernel_rfl)

end Go.Proofs.YtelldeeokpjchaaGreatDoor.PA
