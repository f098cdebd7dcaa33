-- Written by a program of this session (wip/tools/myprint.py). Not trusted: Lean checks it.
import Derived.Test.YtcicpmhcmlfhbaaGreatDoorCtx
import Derived.Test.YtcicpmhcmlfhbaaGreatDoorPAx1
import Derived.Test.YtcicpmhcmlfhbaaGreatDoorPAx2
import Derived.Test.YtcicpmhcmlfhbaaGreatDoorPAx3
import Derived.Test.YtcicpmhcmlfhbaaGreatDoorPAx5
namespace Go.Proofs.YtcicpmhcmlfhbaaGreatDoor.PA
open Go.RowKit Go.Proofs.YtcicpmhcmlfhbaaGreatDoorW.PrintWords Go.Proofs.YtcicpmhcmlfhbaaGreatDoorW.PrintLast Go.Proofs.YtcicpmhcmlfhbaaGreatDoorW.PrintMore
attribute [local go_sem] max2_int min2_int max_two min_two max_three min_three max_four min_four   -- for this text's walks alone
set_option linter.unusedVariables false
set_option linter.unusedSimpArgs false

attribute [local go_sem high] eqA23 eqA25 eqA31
/-! ### impl_IsHand: function 23 -/

def impl_IsHand.f (k : Nat) (a0_0 : Int) (a0_1 : Int) (a0_2 : Int) (a0_3 : Int) (a0_4 : Int) (a0_5 : Bool) (a0_6 : Int) (a0_7 : Int) (a0_8 : Int) (a0_9 : Int) (a0_10 : Bool) (a0_11 : ByteArray) (a0_12 : Int) : Option (Bool) := (impl_IsShape.f a0_0 a0_1 a0_2 a0_3 a0_4 a0_5).bind fun t324 => (if t324 = true then ((impl_IsOrient.f a0_6 a0_7).bind fun t325 => (if t325 = true then ((impl_IsPlace.f a0_8 a0_9 a0_10).bind fun t326 => (if t326 = true then ((impl_IsMove.f k a0_11 a0_12).bind fun t327 => (some t327)) else (some false))) else (some false))) else (some false))

theorem impl_IsHand.mono : ∀ a0 a1 a2 a3 a4 a5 a6 a7 a8 a9 a10 a11 a12 k, LeO (impl_IsHand.f k a0 a1 a2 a3 a4 a5 a6 a7 a8 a9 a10 a11 a12) (impl_IsHand.f (k + 1) a0 a1 a2 a3 a4 a5 a6 a7 a8 a9 a10 a11 a12) := by
  intro a0 a1 a2 a3 a4 a5 a6 a7 a8 a9 a10 a11 a12 k
  unfold impl_IsHand.f
  repeat' first
      | (with_reducible exact impl_IsMove.mono _ _ _)
      | (with_reducible exact LeO.refl _)
      | (with_reducible exact LeO.none _)
      | (with_reducible refine LeO.ite ?_ ?_)
      | (with_reducible refine LeO.bind ?_ (fun _ => ?_))
      | exact impl_IsMove.mono _ _ _
      | exact LeO.none _
      | refine LeO.ite ?_ ?_
      | refine LeO.bind ?_ (fun _ => ?_)

def impl_IsHand.e (k : Nat) : Refl.Ent G := ⟨23, [(.agg gL0)], .one (.c .bool), fun x => impl_IsHand.f k x.1 x.2.1 x.2.2.1 x.2.2.2.1 x.2.2.2.2.1 x.2.2.2.2.2.1 x.2.2.2.2.2.2.1 x.2.2.2.2.2.2.2.1 x.2.2.2.2.2.2.2.2.1 x.2.2.2.2.2.2.2.2.2.1 x.2.2.2.2.2.2.2.2.2.2.1 x.2.2.2.2.2.2.2.2.2.2.2.1 x.2.2.2.2.2.2.2.2.2.2.2.2⟩
theorem impl_IsHand.ok (k : Nat) : Refl.EntOK Tryz.prog (impl_IsHand.e k) := Refl.ent_ok 1000000 k GC (fun k => [impl_IsShape.e k, impl_IsOrient.e k, impl_IsPlace.e k, impl_IsMove.e k]) (fun k => ⟨impl_IsShape.ok k, impl_IsOrient.ok k, impl_IsPlace.ok k, impl_IsMove.ok k, trivial⟩) Tryz.func23 (by kernel_rfl) [] (ps := []) (by kernel_rfl) trivial (fun x => by kernel_rfl)

/-! ### impl_Shape_194: function 194 -/

def impl_Shape_194.l0 : Nat → List (S23) → Int → Int → Int → Int → Int → Int → Int → Bool → Option (Int)
  | 0, _, _, _, _, _, _, _, _, _ => none
  | k + 1, x0, x7, x8, x329000, x329001, x329002, x329003, x329004, x329005 => if x8 < x7 then (if 0 ≤ x8 then (if x8 < (x0.length : Int) then (if (x329000 == ((rd_T23 x0 x8).f0) && (x329001 == ((rd_T23 x0 x8).f1) && (x329002 == ((rd_T23 x0 x8).f2) && (x329003 == ((rd_T23 x0 x8).f3) && (x329004 == ((rd_T23 x0 x8).f4) && (x329005 == ((rd_T23 x0 x8).f5))))))) = true then (some x8) else (impl_Shape_194.l0 k x0 x7 (wrap64 (x8 + 1)) x329000 x329001 x329002 x329003 x329004 x329005)) else (none)) else (none)) else (some (-1))

def impl_Shape_194.f (k : Nat) (l0 : List (S23)) (a1_0 : Int) (a1_1 : Int) (a1_2 : Int) (a1_3 : Int) (a1_4 : Int) (a1_5 : Bool) : Option (Int) := impl_Shape_194.l0 k l0 (l0.length : Int) 0 a1_0 a1_1 a1_2 a1_3 a1_4 a1_5

theorem impl_Shape_194.mono_l : ∀ k, (∀ y0 y1 y2 y3 y4 y5 y6 y7 y8, LeO (impl_Shape_194.l0 k y0 y1 y2 y3 y4 y5 y6 y7 y8) (impl_Shape_194.l0 (k + 1) y0 y1 y2 y3 y4 y5 y6 y7 y8))
  | 0 => fun _ _ _ _ _ _ _ _ _ r h => by simp [impl_Shape_194.l0] at h
  | k + 1 => by
    have ih0 := impl_Shape_194.mono_l k
    · intro y0 y1 y2 y3 y4 y5 y6 y7 y8
      unfold impl_Shape_194.l0
      repeat' first
      | (with_reducible exact ih0 _ _ _ _ _ _ _ _ _)
      | (with_reducible exact LeO.refl _)
      | (with_reducible exact LeO.none _)
      | (with_reducible refine LeO.ite ?_ ?_)
      | (with_reducible refine LeO.bind ?_ (fun _ => ?_))
      | exact ih0 _ _ _ _ _ _ _ _ _
      | exact LeO.none _
      | refine LeO.ite ?_ ?_
      | refine LeO.bind ?_ (fun _ => ?_)

theorem impl_Shape_194.mono : ∀ a0 a1 a2 a3 a4 a5 a6 k, LeO (impl_Shape_194.f k a0 a1 a2 a3 a4 a5 a6) (impl_Shape_194.f (k + 1) a0 a1 a2 a3 a4 a5 a6) := by
  intro a0 a1 a2 a3 a4 a5 a6 k
  have ih0 := impl_Shape_194.mono_l k
  unfold impl_Shape_194.f
  repeat' first
      | (with_reducible exact ih0 _ _ _ _ _ _ _ _ _)
      | (with_reducible exact LeO.refl _)
      | (with_reducible exact LeO.none _)
      | (with_reducible refine LeO.ite ?_ ?_)
      | (with_reducible refine LeO.bind ?_ (fun _ => ?_))
      | exact ih0 _ _ _ _ _ _ _ _ _
      | exact LeO.none _
      | refine LeO.ite ?_ ?_
      | refine LeO.bind ?_ (fun _ => ?_)

def impl_Shape_194.e (k : Nat) : Refl.Ent G := ⟨194, [(.c (.row 23 false)), (.agg [li, li, li, li, li, .bool])], .one (.c li), fun x => impl_Shape_194.f k x.1 x.2.1 x.2.2.1 x.2.2.2.1 x.2.2.2.2.1 x.2.2.2.2.2.1 x.2.2.2.2.2.2⟩
def impl_Shape_194.pl0 : Refl.Pn G (Refl.PT G (impl_Shape_194.e 0).ol) := ⟨true, 0, ⟨[(0, .v (.c (.row 23 false))), (7, .v (.c li)), (8, .v (.c li)), (3, .box 3 0), (4, .k (Value.int IntKind.i64 0))], [(3, 23, gL7)]⟩, fun k x => impl_Shape_194.l0 k x.1 x.2.1 x.2.2.1 x.2.2.2.1 x.2.2.2.2.1 x.2.2.2.2.2.1 x.2.2.2.2.2.2.1 x.2.2.2.2.2.2.2.1 x.2.2.2.2.2.2.2.2⟩
theorem impl_Shape_194.ok (k : Nat) : Refl.EntOK Tryz.prog (impl_Shape_194.e k) := Refl.ent_ok 1000000 k GC (fun k => []) (fun k => trivial) Tryz.func194 (by kernel_rfl) [impl_Shape_194.pl0] (ps := [impl_Shape_194.pl0]) (by kernel_rfl) ⟨⟨fun x => by kernel_rfl, fun k x => by kernel_rfl⟩, trivial⟩ (fun x => by kernel_rfl)

/-! ### impl_Shape_169: function 169 -/

def impl_Shape_169.f (k : Nat) (l0 : List (S23)) (a1_0 : Int) (a1_1 : Int) (a1_2 : Int) (a1_3 : Int) (a1_4 : Int) (a1_5 : Bool) : Option (Bool) := (impl_Shape_194.f k l0 a1_0 a1_1 a1_2 a1_3 a1_4 a1_5).bind fun t331 => (some (decide (t331 ≥ 0)))

theorem impl_Shape_169.mono : ∀ a0 a1 a2 a3 a4 a5 a6 k, LeO (impl_Shape_169.f k a0 a1 a2 a3 a4 a5 a6) (impl_Shape_169.f (k + 1) a0 a1 a2 a3 a4 a5 a6) := by
  intro a0 a1 a2 a3 a4 a5 a6 k
  unfold impl_Shape_169.f
  repeat' first
      | (with_reducible exact impl_Shape_194.mono _ _ _ _ _ _ _ _)
      | (with_reducible exact LeO.refl _)
      | (with_reducible exact LeO.none _)
      | (with_reducible refine LeO.ite ?_ ?_)
      | (with_reducible refine LeO.bind ?_ (fun _ => ?_))
      | exact impl_Shape_194.mono _ _ _ _ _ _ _ _
      | exact LeO.none _
      | refine LeO.ite ?_ ?_
      | refine LeO.bind ?_ (fun _ => ?_)

def impl_Shape_169.e (k : Nat) : Refl.Ent G := ⟨169, [(.c (.row 23 false)), (.agg [li, li, li, li, li, .bool])], .one (.c .bool), fun x => impl_Shape_169.f k x.1 x.2.1 x.2.2.1 x.2.2.2.1 x.2.2.2.2.1 x.2.2.2.2.2.1 x.2.2.2.2.2.2⟩
theorem impl_Shape_169.ok (k : Nat) : Refl.EntOK Tryz.prog (impl_Shape_169.e k) := Refl.ent_ok 1000000 k GC (fun k => [impl_Shape_194.e k]) (fun k => ⟨impl_Shape_194.ok k, trivial⟩) Tryz.func169 (by kernel_rfl) [] (ps := []) (by kernel_rfl) trivial (fun x => by kernel_rfl)

/-! ### strconv_Itoa: function 149 -/

/-- The digits, and the pairs of digits, as the library lays them. -/
def itA : ByteArray := ⟨#[48, 49, 50, 51, 52, 53, 54, 55, 56, 57, 97, 98, 99, 100, 101, 102, 103, 104, 105, 106, 107, 108, 109, 110, 111, 112, 113, 114, 115, 116, 117, 118, 119, 120, 121, 122]⟩
def itB : ByteArray := ⟨#[48, 48, 48, 49, 48, 50, 48, 51, 48, 52, 48, 53, 48, 54, 48, 55, 48, 56, 48, 57, 49, 48, 49, 49, 49, 50, 49, 51, 49, 52, 49, 53, 49, 54, 49, 55, 49, 56, 49, 57, 50, 48, 50, 49, 50, 50, 50, 51, 50, 52, 50, 53, 50, 54, 50, 55, 50, 56, 50, 57, 51, 48, 51, 49, 51, 50, 51, 51, 51, 52, 51, 53, 51, 54, 51, 55, 51, 56, 51, 57, 52, 48, 52, 49, 52, 50, 52, 51, 52, 52, 52, 53, 52, 54, 52, 55, 52, 56, 52, 57, 53, 48, 53, 49, 53, 50, 53, 51, 53, 52, 53, 53, 53, 54, 53, 55, 53, 56, 53, 57, 54, 48, 54, 49, 54, 50, 54, 51, 54, 52, 54, 53, 54, 54, 54, 55, 54, 56, 54, 57, 55, 48, 55, 49, 55, 50, 55, 51, 55, 52, 55, 53, 55, 54, 55, 55, 55, 56, 55, 57, 56, 48, 56, 49, 56, 50, 56, 51, 56, 52, 56, 53, 56, 54, 56, 55, 56, 56, 56, 57, 57, 48, 57, 49, 57, 50, 57, 51, 57, 52, 57, 53, 57, 54, 57, 55, 57, 56, 57, 57]⟩
/-- The text of a number below 100. -/
def itT (n : Int) : ByteArray := if n < 10 then itA.extract n.toNat (n + 1).toNat else itB.extract (n * 2).toNat (n * 2 + 2).toNat
set_option maxHeartbeats 4000000 in
set_option maxRecDepth 100000 in
theorem itSmall (n : Int) (w : World) (h0 : 0 ≤ n) (h1 : n < 100) : Calls Tryz.prog 227 #[.int .i64 n] w fun e w' => e = .returned (.string (itT n)) ∧ Drawn0 w w' := by
  have e1 : IntKind.i64.wrap (n + 1) = n + 1 := by simp [IntKind.wrap, IntKind.bits, IntKind.signed]; omega
  have e2 : IntKind.i64.wrap (n * 2) = n * 2 := by simp [IntKind.wrap, IntKind.bits, IntKind.signed]; omega
  have e3 : IntKind.i64.wrap (n * 2 + 2) = n * 2 + 2 := by simp [IntKind.wrap, IntKind.bits, IntKind.signed]; omega
  by_cases h : n < 10
  · have c0 : decide (n < 10) = true := decide_eq_true h
    have c1 : itT n = itA.extract n.toNat (n + 1).toNat := if_pos h
    have b0 : (0 ≤ n) = True := eq_true h0
    have b1 : (n ≤ n + 1) = True := eq_true (by omega)
    have b2 : (n + 1 ≤ 36) = True := eq_true (by omega)
    have b3 : decide (0 ≤ n) = true := decide_eq_true h0
    have b4 : decide (n ≤ n + 1) = true := decide_eq_true (by omega)
    have b5 : decide (n + 1 ≤ 36) = true := decide_eq_true (by omega)
    rw [c1]
    clear h c1 h0 h1
    go_enter Tryz.func227, Tryz.ntmps227
    go_wp2
    go_ret
    exact ⟨by first | rfl | (simp [itA]; done), by repeat (first | exact Drawn0.refl _ | apply Drawn0.step)⟩
  · have c0 : decide (n < 10) = false := decide_eq_false h
    have c1 : itT n = itB.extract (n * 2).toNat (n * 2 + 2).toNat := if_neg h
    have b0 : (0 ≤ n * 2) = True := eq_true (by omega)
    have b1 : (n * 2 ≤ n * 2 + 2) = True := eq_true (by omega)
    have b2 : (n * 2 + 2 ≤ 200) = True := eq_true (by omega)
    have b3 : decide (0 ≤ n * 2) = true := decide_eq_true (by omega)
    have b4 : decide (n * 2 ≤ n * 2 + 2) = true := decide_eq_true (by omega)
    have b5 : decide (n * 2 + 2 ≤ 200) = true := decide_eq_true (by omega)
    rw [c1]
    clear h c1 h0 h1
    go_enter Tryz.func227, Tryz.ntmps227
    go_wp2
    go_ret
    exact ⟨by first | rfl | (simp [itB]; done), by repeat (first | exact Drawn0.refl _ | apply Drawn0.step)⟩
set_option maxHeartbeats 4000000 in
set_option maxRecDepth 100000 in
theorem itFormat (n : Int) (w : World) (h0 : 0 ≤ n) (h1 : n < 100) : Calls Tryz.prog 209 #[.int .i64 n, .int .i64 10] w fun e w' => e = .returned (.string (itT n)) ∧ Drawn0 w w' := by
  have HS := Aside0.mk (fun W => itSmall n W h0 h1)
  have e1 : IntKind.i64.wrap n = n := by simp [IntKind.wrap, IntKind.bits, IntKind.signed]; omega
  have c0 : decide (0 ≤ n) = true := decide_eq_true h0
  have c1 : decide (n < 100) = true := decide_eq_true h1
  clear h0 h1
  go_enter Tryz.func209, Tryz.ntmps209
  go_wp2_with (go_at_call 227; refine (HS.out _).mono ?_; rintro e wq ⟨rfl, ⟨nd, rfl⟩⟩)
  go_ret
  exact ⟨by first | rfl | (simp; done), by repeat (first | exact Drawn0.refl _ | apply Drawn0.step)⟩
set_option maxHeartbeats 4000000 in
set_option maxRecDepth 100000 in
theorem itIn (n : Int) (w : World) (h0 : 0 ≤ n) (h1 : n < 100) : Calls Tryz.prog 188 #[.int .i64 n] w fun e w' => e = .returned (.string (itT n)) ∧ Drawn0 w w' := by
  have HS := Aside0.mk (fun W => itFormat n W h0 h1)
  have e1 : IntKind.i64.wrap n = n := by simp [IntKind.wrap, IntKind.bits, IntKind.signed]; omega
  clear h0 h1
  go_enter Tryz.func188, Tryz.ntmps188
  go_wp2_with (go_at_call 209; refine (HS.out _).mono ?_; rintro e wq ⟨rfl, ⟨nd, rfl⟩⟩)
  go_ret
  exact ⟨by first | rfl | (simp; done), by repeat (first | exact Drawn0.refl _ | apply Drawn0.step)⟩
def strconv_Itoa.f (a0 : Int) : Option ByteArray := if 0 ≤ a0 ∧ a0 < 100 then some (itT a0) else none
set_option maxHeartbeats 4000000 in
set_option maxRecDepth 100000 in
theorem strconv_Itoa.calls (a0 : Int) (r : ByteArray) (w : World) (h : strconv_Itoa.f a0 = some r) : Calls Tryz.prog 149 #[.int .i64 a0] w fun e w' => e = .returned (.string r) ∧ Drawn0 w w' := by
  unfold strconv_Itoa.f at h
  by_cases hn : 0 ≤ a0 ∧ a0 < 100
  · rw [if_pos hn] at h
    obtain rfl := Option.some.inj h
    have HS := Aside0.mk (fun W => itIn a0 W hn.1 hn.2)
    clear h hn
    go_enter Tryz.func149, Tryz.ntmps149
    go_wp2_with (go_at_call 188; refine (HS.out _).mono ?_; rintro e wq ⟨rfl, ⟨nd, rfl⟩⟩)
    go_ret
    exact ⟨by first | rfl | (simp; done), by repeat (first | exact Drawn0.refl _ | apply Drawn0.step)⟩
  · rw [if_neg hn] at h; exact absurd h (by simp)

def strconv_Itoa.e (k : Nat) : Refl.Ent G := ⟨149, [(.c li)], .one (.c .str), fun x => strconv_Itoa.f x⟩
theorem strconv_Itoa.ok (k : Nat) : Refl.EntOK Tryz.prog (strconv_Itoa.e k) := Refl.entOK_hand Tryz.func149 (by kernel_rfl) (fun x => by kernel_rfl) (fun y => ⟨by kernel_rfl, by kernel_rfl, by kernel_rfl, by kernel_rfl⟩) (fun x y h w => (strconv_Itoa.calls x y w h).mono fun e w' hh => ⟨hh.1, hh.2.below⟩)

/-! ### impl_Shape_text: function 98 -/

def impl_Shape_text.l0 : Nat → ByteArray → List Int → Int → Int → Int → Int → Int → Int → Int → Bool → Option (ByteArray)
  | 0, _, _, _, _, _, _, _, _, _, _ => none
  | k + 1, x3, x10, x11, x12, x333000, x333001, x333002, x333003, x333004, x333005 => if x12 < x11 then (if 0 ≤ x12 then (if x12 < (x10.length : Int) then ((strconv_Itoa.f (rd x10 x12)).bind fun t338 => (if x3.size + t338.size ≤ 9223372036854775807 then (impl_Shape_text.l0 k (x3 ++ t338) x10 x11 (wrap64 (x12 + 1)) x333000 x333001 x333002 x333003 x333004 x333005) else (none))) else (none)) else (none)) else (if x333005 = true then (if x3.size + 1 ≤ 9223372036854775807 then (some (x3 ++ (⟨#[115]⟩ : ByteArray))) else (none)) else (some x3))

def impl_Shape_text.f (k : Nat) (a0_0 : Int) (a0_1 : Int) (a0_2 : Int) (a0_3 : Int) (a0_4 : Int) (a0_5 : Bool) : Option (ByteArray) := (strconv_Itoa.f a0_0).bind fun t333 => ((impl_Shape_bends.f a0_0 a0_1 a0_2 a0_3 a0_4 a0_5).bind fun t334 => (impl_Shape_text.l0 k t333 t334 (t334.length : Int) 0 a0_0 a0_1 a0_2 a0_3 a0_4 a0_5))

theorem impl_Shape_text.mono_l : ∀ k, (∀ y0 y1 y2 y3 y4 y5 y6 y7 y8 y9, LeO (impl_Shape_text.l0 k y0 y1 y2 y3 y4 y5 y6 y7 y8 y9) (impl_Shape_text.l0 (k + 1) y0 y1 y2 y3 y4 y5 y6 y7 y8 y9))
  | 0 => fun _ _ _ _ _ _ _ _ _ _ r h => by simp [impl_Shape_text.l0] at h
  | k + 1 => by
    have ih0 := impl_Shape_text.mono_l k
    · intro y0 y1 y2 y3 y4 y5 y6 y7 y8 y9
      unfold impl_Shape_text.l0
      repeat' first
      | (with_reducible exact ih0 _ _ _ _ _ _ _ _ _ _)
      | (with_reducible exact LeO.refl _)
      | (with_reducible exact LeO.none _)
      | (with_reducible refine LeO.ite ?_ ?_)
      | (with_reducible refine LeO.bind ?_ (fun _ => ?_))
      | exact ih0 _ _ _ _ _ _ _ _ _ _
      | exact LeO.none _
      | refine LeO.ite ?_ ?_
      | refine LeO.bind ?_ (fun _ => ?_)

theorem impl_Shape_text.mono : ∀ a0 a1 a2 a3 a4 a5 k, LeO (impl_Shape_text.f k a0 a1 a2 a3 a4 a5) (impl_Shape_text.f (k + 1) a0 a1 a2 a3 a4 a5) := by
  intro a0 a1 a2 a3 a4 a5 k
  have ih0 := impl_Shape_text.mono_l k
  unfold impl_Shape_text.f
  repeat' first
      | (with_reducible exact ih0 _ _ _ _ _ _ _ _ _ _)
      | (with_reducible exact LeO.refl _)
      | (with_reducible exact LeO.none _)
      | (with_reducible refine LeO.ite ?_ ?_)
      | (with_reducible refine LeO.bind ?_ (fun _ => ?_))
      | exact ih0 _ _ _ _ _ _ _ _ _ _
      | exact LeO.none _
      | refine LeO.ite ?_ ?_
      | refine LeO.bind ?_ (fun _ => ?_)

def impl_Shape_text.e (k : Nat) : Refl.Ent G := ⟨98, [(.agg [li, li, li, li, li, .bool])], .one (.c .str), fun x => impl_Shape_text.f k x.1 x.2.1 x.2.2.1 x.2.2.2.1 x.2.2.2.2.1 x.2.2.2.2.2⟩
def impl_Shape_text.pl0 : Refl.Pn G (Refl.PT G (impl_Shape_text.e 0).ol) := ⟨true, 0, ⟨[(3, .v (.c .str)), (10, .v (.c (.row 3 false))), (11, .v (.c li)), (12, .v (.c li)), (1, .box 1 0)], [(1, 23, gL7)]⟩, fun k x => impl_Shape_text.l0 k x.1 x.2.1 x.2.2.1 x.2.2.2.1 x.2.2.2.2.1 x.2.2.2.2.2.1 x.2.2.2.2.2.2.1 x.2.2.2.2.2.2.2.1 x.2.2.2.2.2.2.2.2.1 x.2.2.2.2.2.2.2.2.2⟩
theorem impl_Shape_text.ok (k : Nat) : Refl.EntOK Tryz.prog (impl_Shape_text.e k) := Refl.ent_ok 1000000 k GC (fun k => [strconv_Itoa.e k, impl_Shape_bends.e k]) (fun k => ⟨strconv_Itoa.ok k, impl_Shape_bends.ok k, trivial⟩) Tryz.func98 (by kernel_rfl) [impl_Shape_text.pl0] (ps := [impl_Shape_text.pl0]) (by kernel_rfl) ⟨⟨fun x => by kernel_rfl, fun k x => by kernel_rfl⟩, trivial⟩ (fun x => by kernel_rfl)

/-! ### impl_Shape_with: function 138 -/

def impl_Shape_with.f (a0_0 : Int) (a0_1 : Int) (a0_2 : Int) (a0_3 : Int) (a0_4 : Int) (a0_5 : Bool) (a1 : Int) (a2 : Int) : Option (Int × Int × Int × Int × Int × Bool) := if a1 = 0 then (if a0_5 = true then ((impl_Shape_maySpread.f a2 a0_1 a0_2 a0_3 a0_4 a0_5).bind fun t341 => (some (a2, a0_1, a0_2, a0_3, a0_4, t341))) else (some (a2, a0_1, a0_2, a0_3, a0_4, false))) else (if a1 = 1 then (if a0_5 = true then ((impl_Shape_maySpread.f a0_0 a2 a0_2 a0_3 a0_4 a0_5).bind fun t342 => (some (a0_0, a2, a0_2, a0_3, a0_4, t342))) else (some (a0_0, a2, a0_2, a0_3, a0_4, false))) else (if a1 = 2 then (if a0_5 = true then ((impl_Shape_maySpread.f a0_0 a0_1 a2 a0_3 a0_4 a0_5).bind fun t343 => (some (a0_0, a0_1, a2, a0_3, a0_4, t343))) else (some (a0_0, a0_1, a2, a0_3, a0_4, false))) else (if a1 = 3 then (if a0_5 = true then ((impl_Shape_maySpread.f a0_0 a0_1 a0_2 a2 a0_4 a0_5).bind fun t344 => (some (a0_0, a0_1, a0_2, a2, a0_4, t344))) else (some (a0_0, a0_1, a0_2, a2, a0_4, false))) else (if a0_5 = true then ((impl_Shape_maySpread.f a0_0 a0_1 a0_2 a0_3 a2 a0_5).bind fun t345 => (some (a0_0, a0_1, a0_2, a0_3, a2, t345))) else (some (a0_0, a0_1, a0_2, a0_3, a2, false))))))

def impl_Shape_with.e (k : Nat) : Refl.Ent G := ⟨138, [(.agg [li, li, li, li, li, .bool]), (.c li), (.c li)], .one (.agg [li, li, li, li, li, .bool]), fun x => impl_Shape_with.f x.1 x.2.1 x.2.2.1 x.2.2.2.1 x.2.2.2.2.1 x.2.2.2.2.2.1 x.2.2.2.2.2.2.1 x.2.2.2.2.2.2.2⟩
theorem impl_Shape_with.ok (k : Nat) : Refl.EntOK Tryz.prog (impl_Shape_with.e k) := Refl.ent_ok 1000000 k GC (fun k => [impl_Shape_maySpread.e k]) (fun k => ⟨impl_Shape_maySpread.ok k, trivial⟩) Tryz.func138 (by kernel_rfl) [] (ps := []) (by kernel_rfl) trivial (fun x => by kernel_rfl)

/-! ### impl_ParseShape: function 87 -/

def impl_ParseShape.l0 : Nat → ByteArray → Int → Int → Int → Int → Int → Int → Bool → Option (Int × Int × Int × Int × Int × Bool × Bool)
  | 0, _, _, _, _, _, _, _, _ => none
  | k + 1, x0, x11, x349000, x349001, x349002, x349003, x349004, x349005 => if x11 < 5 then (if 0 ≤ x11 then (if x11 < (x0.size : Int) then ((impl_Shape_with.f x349000 x349001 x349002 x349003 x349004 x349005 x11 (wrap64 ((wrap64 (bt x0 x11)) - 48))).bind fun bt349 => (impl_ParseShape.l0 k x0 (wrap64 (x11 + 1)) bt349.1 bt349.2.1 bt349.2.2.1 bt349.2.2.2.1 bt349.2.2.2.2.1 bt349.2.2.2.2.2)) else (none)) else (none)) else ((impl_IsShape.f x349000 x349001 x349002 x349003 x349004 ((x0.size : Int) == 6)).bind fun t355 => (if t355 = true then ((impl_Shape_text.f k x349000 x349001 x349002 x349003 x349004 ((x0.size : Int) == 6)).bind fun t356 => (if t356.toList = x0.toList then (some (x349000, x349001, x349002, x349003, x349004, ((x0.size : Int) == 6), true)) else (some (0, 0, 0, 0, 0, false, false)))) else (some (0, 0, 0, 0, 0, false, false))))

def impl_ParseShape.f (k : Nat) (a0 : ByteArray) : Option (Int × Int × Int × Int × Int × Bool × Bool) := (impl_within.f (a0.size : Int) 5 6).bind fun t347 => (if t347 = true then (impl_ParseShape.l0 k a0 0 0 0 0 0 0 false) else (some (0, 0, 0, 0, 0, false, false)))

theorem impl_ParseShape.mono_l : ∀ k, (∀ y0 y1 y2 y3 y4 y5 y6 y7, LeO (impl_ParseShape.l0 k y0 y1 y2 y3 y4 y5 y6 y7) (impl_ParseShape.l0 (k + 1) y0 y1 y2 y3 y4 y5 y6 y7))
  | 0 => fun _ _ _ _ _ _ _ _ r h => by simp [impl_ParseShape.l0] at h
  | k + 1 => by
    have ih0 := impl_ParseShape.mono_l k
    · intro y0 y1 y2 y3 y4 y5 y6 y7
      unfold impl_ParseShape.l0
      repeat' first
      | (with_reducible exact ih0 _ _ _ _ _ _ _ _)
      | (with_reducible exact impl_Shape_text.mono _ _ _ _ _ _ _)
      | (with_reducible exact LeO.refl _)
      | (with_reducible exact LeO.none _)
      | (with_reducible refine LeO.ite ?_ ?_)
      | (with_reducible refine LeO.bind ?_ (fun _ => ?_))
      | exact ih0 _ _ _ _ _ _ _ _
      | exact impl_Shape_text.mono _ _ _ _ _ _ _
      | exact LeO.none _
      | refine LeO.ite ?_ ?_
      | refine LeO.bind ?_ (fun _ => ?_)

theorem impl_ParseShape.mono : ∀ a0 k, LeO (impl_ParseShape.f k a0) (impl_ParseShape.f (k + 1) a0) := by
  intro a0 k
  have ih0 := impl_ParseShape.mono_l k
  unfold impl_ParseShape.f
  repeat' first
      | (with_reducible exact ih0 _ _ _ _ _ _ _ _)
      | (with_reducible exact impl_Shape_text.mono _ _ _ _ _ _ _)
      | (with_reducible exact LeO.refl _)
      | (with_reducible exact LeO.none _)
      | (with_reducible refine LeO.ite ?_ ?_)
      | (with_reducible refine LeO.bind ?_ (fun _ => ?_))
      | exact ih0 _ _ _ _ _ _ _ _
      | exact impl_Shape_text.mono _ _ _ _ _ _ _
      | exact LeO.none _
      | refine LeO.ite ?_ ?_
      | refine LeO.bind ?_ (fun _ => ?_)

def impl_ParseShape.e (k : Nat) : Refl.Ent G := ⟨87, [(.c .str)], .tup [(.agg [li, li, li, li, li, .bool]), (.c .bool)], fun x => impl_ParseShape.f k x⟩
def impl_ParseShape.pl0 : Refl.Pn G (Refl.PT G (impl_ParseShape.e 0).ol) := ⟨true, 0, ⟨[(0, .v (.c .str)), (11, .v (.c li)), (4, .box 4 0), (2, .box 2 0), (3, .k (Value.bool false))], [(4, 23, gL7), (2, 23, gL2)]⟩, fun k x => impl_ParseShape.l0 k x.1 x.2.1 x.2.2.1 x.2.2.2.1 x.2.2.2.2.1 x.2.2.2.2.2.1 x.2.2.2.2.2.2.1 x.2.2.2.2.2.2.2⟩
theorem impl_ParseShape.ok (k : Nat) : Refl.EntOK Tryz.prog (impl_ParseShape.e k) := Refl.ent_ok 1000000 k GC (fun k => [impl_within.e k, impl_Shape_with.e k, impl_IsShape.e k, impl_Shape_text.e k]) (fun k => ⟨impl_within.ok k, impl_Shape_with.ok k, impl_IsShape.ok k, impl_Shape_text.ok k, trivial⟩) Tryz.func87 (by kernel_rfl) [impl_ParseShape.pl0] (ps := [impl_ParseShape.pl0]) (by kernel_rfl) ⟨⟨fun x => by kernel_rfl, fun k x => by kernel_rfl⟩, trivial⟩ (fun x => by kernel_rfl)

/-! ### impl_PlainShapes: function 170 -/

def impl_PlainShapes.l0 : Nat → List (S23) → List ByteArray → Int → Int → Option ((List (S23)))
  | 0, _, _, _, _ => none
  | k + 1, x1, x6, x7, x8 => if x8 < x7 then (if 0 ≤ x8 then (if x8 < (x6.length : Int) then ((impl_ParseShape.f k (rdOf ByteArray.empty x6 x8)).bind fun bt361 => (if x1.length < 2932031007402 then (impl_PlainShapes.l0 k (x1 ++ [(⟨bt361.1, bt361.2.1, bt361.2.2.1, bt361.2.2.2.1, bt361.2.2.2.2.1, bt361.2.2.2.2.2.1⟩ : S23)]) x6 x7 (wrap64 (x8 + 1))) else (none))) else (none)) else (none)) else (some x1)

def impl_PlainShapes.f (k : Nat)  : Option ((List (S23))) := (some (([(⟨#[48, 48, 48, 48, 48]⟩ : ByteArray), (⟨#[48, 48, 48, 48, 48, 115]⟩ : ByteArray), (⟨#[50, 50, 50, 50, 50]⟩ : ByteArray), (⟨#[49, 48, 48, 48, 48]⟩ : ByteArray), (⟨#[49, 48, 50, 50, 50]⟩ : ByteArray), (⟨#[48, 48, 50, 50, 50]⟩ : ByteArray)] : List ByteArray) : List ByteArray)).bind fun y357 => (impl_PlainShapes.l0 k ([] : List (S23)) y357 (y357.length : Int) 0)

theorem impl_PlainShapes.mono_l : ∀ k, (∀ y0 y1 y2 y3, LeO (impl_PlainShapes.l0 k y0 y1 y2 y3) (impl_PlainShapes.l0 (k + 1) y0 y1 y2 y3))
  | 0 => fun _ _ _ _ r h => by simp [impl_PlainShapes.l0] at h
  | k + 1 => by
    have ih0 := impl_PlainShapes.mono_l k
    · intro y0 y1 y2 y3
      unfold impl_PlainShapes.l0
      repeat' first
      | (with_reducible exact ih0 _ _ _ _)
      | (with_reducible exact impl_ParseShape.mono _ _)
      | (with_reducible exact LeO.refl _)
      | (with_reducible exact LeO.none _)
      | (with_reducible refine LeO.ite ?_ ?_)
      | (with_reducible refine LeO.bind ?_ (fun _ => ?_))
      | exact ih0 _ _ _ _
      | exact impl_ParseShape.mono _ _
      | exact LeO.none _
      | refine LeO.ite ?_ ?_
      | refine LeO.bind ?_ (fun _ => ?_)

theorem impl_PlainShapes.mono : ∀ k, LeO (impl_PlainShapes.f k ) (impl_PlainShapes.f (k + 1) ) := by
  intro  k
  have ih0 := impl_PlainShapes.mono_l k
  unfold impl_PlainShapes.f
  repeat' first
      | (with_reducible exact ih0 _ _ _ _)
      | (with_reducible exact impl_ParseShape.mono _ _)
      | (with_reducible exact LeO.refl _)
      | (with_reducible exact LeO.none _)
      | (with_reducible refine LeO.ite ?_ ?_)
      | (with_reducible refine LeO.bind ?_ (fun _ => ?_))
      | exact ih0 _ _ _ _
      | exact impl_ParseShape.mono _ _
      | exact LeO.none _
      | refine LeO.ite ?_ ?_
      | refine LeO.bind ?_ (fun _ => ?_)

def impl_PlainShapes.e (k : Nat) : Refl.Ent G := ⟨170, [], .one (.c (.row 23 true)), fun _ => impl_PlainShapes.f k ⟩
def impl_PlainShapes.pl0 : Refl.Pn G (Refl.PT G (impl_PlainShapes.e 0).ol) := ⟨true, 0, ⟨[(1, .v (.c (.row 23 true))), (6, .v (.c (.row 9 false))), (7, .v (.c li)), (8, .v (.c li))], []⟩, fun k x => impl_PlainShapes.l0 k x.1 x.2.1 x.2.2.1 x.2.2.2⟩
theorem impl_PlainShapes.ok (k : Nat) : Refl.EntOK Tryz.prog (impl_PlainShapes.e k) := Refl.ent_ok 1000000 k GC (fun k => [impl_ParseShape.e k]) (fun k => ⟨impl_ParseShape.ok k, trivial⟩) Tryz.func170 (by kernel_rfl) [impl_PlainShapes.pl0] (ps := [impl_PlainShapes.pl0]) (by kernel_rfl) ⟨⟨fun x => by kernel_rfl, fun k x => by kernel_rfl⟩, trivial⟩ (fun x => by kernel_rfl)

/-! ### impl_Orient_mirrored: function 171 -/

def orSw (d : Int) : Int := if d = 2 then 3 else if d = 3 then 2 else d
def impl_Orient_mirrored.f (a0_0 a0_1 : Int) : Option (Int × Int) := some (orSw a0_0, orSw a0_1)
set_option maxHeartbeats 4000000 in
set_option maxRecDepth 100000 in
theorem orSw_calls (d : Int) (w : World) : Calls Tryz.prog 195 #[.int .i64 d] w fun e w' => e = .returned (.int .i64 (orSw d)) ∧ Drawn0 w w' := by
  have h : (d = 2) ∨ (d = 3) ∨ (¬ d = 2 ∧ ¬ d = 3) := by omega
  rcases h with rfl | rfl | ⟨h2, h3⟩
  · go_enter Tryz.func195, Tryz.ntmps195
    go_wp2
    go_ret
    exact ⟨rfl, by repeat (first | exact Drawn0.refl _ | apply Drawn0.step)⟩
  · go_enter Tryz.func195, Tryz.ntmps195
    go_wp2
    go_ret
    exact ⟨rfl, by repeat (first | exact Drawn0.refl _ | apply Drawn0.step)⟩
  · have e : orSw d = d := by unfold orSw; rw [if_neg h2, if_neg h3]
    rw [e]
    have c2 : (d == 2) = false := by simpa using h2
    have c3 : (d == 3) = false := by simpa using h3
    clear e h2 h3
    go_enter Tryz.func195, Tryz.ntmps195
    go_wp2
    go_ret
    exact ⟨rfl, by repeat (first | exact Drawn0.refl _ | apply Drawn0.step)⟩
set_option maxHeartbeats 4000000 in
set_option maxRecDepth 100000 in
theorem impl_Orient_mirrored.calls (a0_0 a0_1 r1 r2 : Int) (w : World) (h : impl_Orient_mirrored.f a0_0 a0_1 = some (r1, r2)) :
    Calls Tryz.prog 171 #[.agg #[.int .i64 a0_0, .int .i64 a0_1]] w fun e w' => e = .returned (.agg #[.int .i64 r1, .int .i64 r2]) ∧ Below w.heap.size w w' := by
  unfold impl_Orient_mirrored.f at h
  simp only [Option.some.injEq, Prod.mk.injEq] at h
  obtain ⟨rfl, rfl⟩ := h
  have HB := Aside0.mk (Below.refl w.heap.size w)
  have HC0 := Aside0.mk (fun W => orSw_calls a0_0 W)
  have HC1 := Aside0.mk (fun W => orSw_calls a0_1 W)
  generalize orSw a0_0 = s0 at HC0
  generalize orSw a0_1 = s1 at HC1
  go_enter Tryz.func171, Tryz.ntmps171
  go_wp2_with (first
    | ((with_reducible refine gate_dst (N := 1) rfl ?_); refine box_event ?hg (N := 1) ?hd (cs := #[.int .i64 a0_0, .int .i64 a0_1]) (t := 25) ?hr ?_; (case hd => rfl); (case hg => rfl); (case hr => first | (go_simp; done) | (go_simp; rfl)); intro g1 hg1 w1 hbox hb; have BK1 := Aside0.mk hbox; have HB1 := Aside0.mk hb; clear hbox hb hg1 HB)
    | ((with_reducible refine gate_dst (N := 2) rfl ?_); refine box_event ?hg (N := 2) ?hd (cs := #[.int .i64 0, .int .i64 0]) (t := 25) ?hr ?_; (case hd => rfl); (case hg => rfl); (case hr => first | (go_simp; done) | (go_simp; rfl)); intro g2 hg2 w2 hbox hb; have BK1r := Aside0.mk (blk_below BK1.out hb); have BK2 := Aside0.mk hbox; have GE2 := Aside0.mk (show w.heap.size ≤ g2 by rw [hg2]; exact below_size HB1.out); have HB2 := Aside0.mk (below_step HB1.out hb); clear hbox hb hg2 BK1 HB1))
  have d0 : w2.cell? ⟨g1, 0, none⟩ = some (.int .i64 a0_0) := (blk_cell BK1r.out 0).trans rfl
  have d1 : w2.cell? ⟨g1, 1, none⟩ = some (.int .i64 a0_1) := (blk_cell BK1r.out 1).trans rfl
  have d2 : w2.cell? ⟨g2, 0, none⟩ = some (.int .i64 0) := (blk_cell BK2.out 0).trans rfl
  have d3 : w2.cell? ⟨g2, 1, none⟩ = some (.int .i64 0) := (blk_cell BK2.out 1).trans rfl
  have z2 : w2.frozen? ⟨g2, 0, none⟩ = false := blk_frozen BK2.out 0
  have z3 : w2.frozen? ⟨g2, 1, none⟩ = false := blk_frozen BK2.out 1
  go_region_with (first
    | (go_at_call 195; (with_reducible refine (HC0.out _).mono ?_); rintro e wq ⟨rfl, ⟨nd, rfl⟩⟩)
    | (go_at_call 195; (with_reducible refine (HC1.out _).mono ?_); rintro e wq ⟨rfl, ⟨nd, rfl⟩⟩))
  all_goals
    go_wp2
    refine bodyPost_ret (results_cell_row rfl _ _ g2 25 #[.int .i64 s0, .int .i64 s1] (0, 0) _ rfl (by (with_reducible repeat (first | apply lN_ | apply lD_ | apply lA_)); refine blk_put (cs := #[.int .i64 s0, .int .i64 0]) ?_ 1 _ rfl; (with_reducible repeat (first | apply lN_ | apply lD_ | apply lA_)); refine blk_put (cs := #[.int .i64 0, .int .i64 0]) ?_ 0 _ rfl; (with_reducible repeat (first | apply lN_ | apply lD_ | apply lA_)); exact BK2.out) Tryz.underlying25 rfl (by kernel_rfl)) rfl ?_
    exact ⟨rfl, by repeat (first | exact HB2.out | apply pw_below_drewN | apply below_drew1 | refine bS_ ?_ GE2.out)⟩

def impl_Orient_mirrored.e (k : Nat) : Refl.Ent G := ⟨171, [(.agg [li, li])], .one (.agg [li, li]), fun x => impl_Orient_mirrored.f x.1 x.2⟩
theorem impl_Orient_mirrored.ok (k : Nat) : Refl.EntOK Tryz.prog (impl_Orient_mirrored.e k) := Refl.entOK_hand Tryz.func171 (by kernel_rfl) (fun x => by kernel_rfl) (fun y => ⟨by kernel_rfl, by kernel_rfl, by kernel_rfl, by kernel_rfl⟩) (fun x y h w => (impl_Orient_mirrored.calls x.1 x.2 y.1 y.2 w h).mono fun e w' hh => ⟨hh.1, hh.2⟩)

/-! ### impl_Move_mirrored: function 173 -/

def impl_Move_mirrored.f (a0_0 : ByteArray) (a0_1 : Int) : Option (ByteArray × Int) := if a0_0.size ≤ 1000000 then some (mirS a0_0, a0_1) else none
set_option maxHeartbeats 4000000 in
set_option maxRecDepth 100000 in
theorem impl_Move_mirrored.calls (a0_0 : ByteArray) (a0_1 : Int) (r1 : ByteArray) (r2 : Int) (w : World) (h : impl_Move_mirrored.f a0_0 a0_1 = some (r1, r2)) :
    Calls Tryz.prog 173 #[.agg #[.string a0_0, .int .i64 a0_1]] w fun e w' => e = .returned (.agg #[.string r1, .int .i64 r2]) ∧ Below w.heap.size w w' := by
  unfold impl_Move_mirrored.f at h
  by_cases hs : a0_0.size ≤ 1000000
  · rw [if_pos hs] at h
    simp only [Option.some.injEq, Prod.mk.injEq] at h
    obtain ⟨rfl, rfl⟩ := h
    have HS := Aside0.mk hs
    have HB := Aside0.mk (Below.refl w.heap.size w)
    clear hs
    go_enter Tryz.func173, Tryz.ntmps173
    go_wp2_with (first
      | ((with_reducible refine gate_dst (N := 1) rfl ?_); refine box_event ?hg (N := 1) ?hd (cs := #[.string a0_0, .int .i64 a0_1]) (t := 29) ?hr ?_; (case hd => rfl); (case hg => rfl); (case hr => first | (go_simp; done) | (go_simp; rfl)); intro g1 hg1 w1 hbox hb; have BK1 := Aside0.mk hbox; have HB1 := Aside0.mk hb; clear hbox hb hg1 HB)
      | ((with_reducible refine gate_dst (N := 2) rfl ?_); refine box_event ?hg (N := 2) ?hd (cs := #[.string ⟨#[]⟩, .int .i64 0]) (t := 29) ?hr ?_; (case hd => rfl); (case hg => rfl); (case hr => first | (go_simp; done) | (go_simp; rfl)); intro g2 hg2 w2 hbox hb; have BK1r := Aside0.mk (blk_below BK1.out hb); have BK2 := Aside0.mk hbox; have GE2 := Aside0.mk (show w.heap.size ≤ g2 by rw [hg2]; exact below_size HB1.out); have HB2 := Aside0.mk (below_step HB1.out hb); clear hbox hb hg2 BK1 HB1))
    have d0 : w2.cell? ⟨g1, 0, none⟩ = some (.string a0_0) := (blk_cell BK1r.out 0).trans rfl
    have d1 : w2.cell? ⟨g1, 1, none⟩ = some (.int .i64 a0_1) := (blk_cell BK1r.out 1).trans rfl
    have a0 : ∀ o, (w2.alloc o).cell? ⟨g1, 0, none⟩ = some (.string a0_0) := fun o => (blk_cell (blk_alloc BK1r.out o) 0).trans rfl
    have a1 : ∀ o, (w2.alloc o).cell? ⟨g1, 1, none⟩ = some (.int .i64 a0_1) := fun o => (blk_cell (blk_alloc BK1r.out o) 1).trans rfl
    have d2 : w2.cell? ⟨g2, 0, none⟩ = some (.string ⟨#[]⟩) := (blk_cell BK2.out 0).trans rfl
    have d3 : w2.cell? ⟨g2, 1, none⟩ = some (.int .i64 0) := (blk_cell BK2.out 1).trans rfl
    have z2 : w2.frozen? ⟨g2, 0, none⟩ = false := blk_frozen BK2.out 0
    have z3 : w2.frozen? ⟨g2, 1, none⟩ = false := blk_frozen BK2.out 1
    go_region_with (first
      | (go_at_call 197; refine (mr_new _ 9 _ (by first | exact blk_new _ _ | exact blk_drew (blk_new _ _) | exact blk_drewN (blk_new _ _) _)).mono ?_; rintro e w3 ⟨g, bk, cp, rfl, hrp, h4, hne, hge, hb3⟩; have HB3 : Aside0 (Below w2.heap.size w2 w3) := ⟨below_step (by repeat (first | exact Below.refl _ _ | apply below_drew1 | apply pw_below_drewN | apply below_alloc)) hb3⟩; have BK1s := blk_below BK1r.out HB3.out; have e0 : w3.cell? ⟨g1, 0, none⟩ = some (.string a0_0) := (blk_cell BK1s 0).trans rfl; have e1 : w3.cell? ⟨g1, 1, none⟩ = some (.int .i64 a0_1) := (blk_cell BK1s 1).trans rfl; have HG : Aside0 (w2.heap.size ≤ g) := ⟨Nat.le_trans (below_size (w := w2) (by repeat (first | exact Below.refl _ _ | apply below_drew1 | apply pw_below_drewN | apply below_alloc))) hge⟩; have HR := Aside0.mk hrp; have H4 := Aside0.mk h4; have HN := Aside0.mk hne; clear hrp h4 hne hge hb3 BK1s)
      | (go_at_call 198; refine (mr_replace g cp w2.heap.size bk a0_0 _ HR.out H4.out HN.out HG.out HS.out).mono ?_; rintro e w4 ⟨rfl, hb4⟩; have HB4 : Aside0 (Below w2.heap.size w2 w4) := ⟨Below.trans (by repeat (first | exact HB3.out | apply below_drew1 | apply pw_below_drewN)) hb4⟩; have BK1t := blk_below BK1r.out HB4.out; have BK2t := Aside0.mk (blk_below BK2.out HB4.out); have e2 : w4.cell? ⟨g1, 1, none⟩ = some (.int .i64 a0_1) := (blk_cell BK1t 1).trans rfl; have k0 : w4.cell? ⟨g2, 0, none⟩ = some (.string ⟨#[]⟩) := (blk_cell BK2t.out 0).trans rfl; have k1 : w4.cell? ⟨g2, 1, none⟩ = some (.int .i64 0) := (blk_cell BK2t.out 1).trans rfl; have q0 : w4.frozen? ⟨g2, 0, none⟩ = false := blk_frozen BK2t.out 0; have q1 : w4.frozen? ⟨g2, 1, none⟩ = false := blk_frozen BK2t.out 1; clear hb4 BK1t))
    all_goals
      go_wp2
      refine bodyPost_ret (results_cell_row rfl _ _ g2 29 #[.string (mirS a0_0), .int .i64 a0_1] (0, 0) _ rfl (by (with_reducible repeat (first | apply lN_ | apply lD_ | apply lA_)); refine blk_put (cs := #[.string (mirS a0_0), .int .i64 0]) ?_ 1 _ rfl; (with_reducible repeat (first | apply lN_ | apply lD_ | apply lA_)); refine blk_put (cs := #[.string ⟨#[]⟩, .int .i64 0]) ?_ 0 _ rfl; (with_reducible repeat (first | apply lN_ | apply lD_ | apply lA_)); exact BK2t.out) Tryz.underlying29 rfl (by kernel_rfl)) rfl ?_
      exact ⟨rfl, by repeat (first | exact (HB2.out.trans (HB4.out.mono (below_size HB2.out))) | apply pw_below_drewN | apply below_drew1 | refine bS_ ?_ GE2.out)⟩
  · rw [if_neg hs] at h; cases h

def impl_Move_mirrored.e (k : Nat) : Refl.Ent G := ⟨173, [(.agg [.str, li])], .one (.agg [.str, li]), fun x => impl_Move_mirrored.f x.1 x.2⟩
theorem impl_Move_mirrored.ok (k : Nat) : Refl.EntOK Tryz.prog (impl_Move_mirrored.e k) := Refl.entOK_hand Tryz.func173 (by kernel_rfl) (fun x => by kernel_rfl) (fun y => ⟨by kernel_rfl, by kernel_rfl, by kernel_rfl, by kernel_rfl⟩) (fun x y h w => (impl_Move_mirrored.calls x.1 x.2 y.1 y.2 w h).mono fun e w' hh => ⟨hh.1, hh.2⟩)

/-! ### impl_keepRules: function 126 -/

def impl_keepRules.j0 : Nat → Bool → Int → Int → Int → Int → Int → Bool → Int → Int → Int → Int → Bool → ByteArray → Int → Int → Int → Int → Int → Int → Bool → Int → Int → Int → Int → Bool → ByteArray → Int → Option (Bool)
  | 0, _, _, _, _, _, _, _, _, _, _, _, _, _, _, _, _, _, _, _, _, _, _, _, _, _, _, _ => none
  | k + 1, x5, x373000, x373001, x373002, x373003, x373004, x373005, x373006, x373007, x373008, x373009, x373010, x373011, x373012, x374000, x374001, x374002, x374003, x374004, x374005, x374006, x374007, x374008, x374009, x374010, x374011, x374012 => (impl_Move_all.f x374011 x374012).bind fun t381 => ((impl_Move_all.f x373011 x373012).bind fun t382 => (if t381.toList = t382.toList then ((impl_Hand_moves.f x373000 x373001 x373002 x373003 x373004 x373005 x373006 x373007 x373008 x373009 x373010 x373011 x373012).bind fun t383 => (if t383 = true then (if (x373000 == x374000 && (x373001 == x374001 && (x373002 == x374002 && (x373003 == x374003 && (x373004 == x374004 && (x373005 == x374005)))))) = true then (if x5 = true then (some true) else (some false)) else (some false)) else (some false))) else ((impl_Move_all.f x374011 x374012).bind fun t384 => ((impl_Move_mirrored.f x373011 x373012).bind fun bt385 => ((impl_Move_all.f bt385.1 bt385.2).bind fun t387 => ((impl_Hand_moves.f x373000 x373001 x373002 x373003 x373004 x373005 x373006 x373007 x373008 x373009 x373010 x373011 x373012).bind fun t388 => (if t388 = true then (if (x373000 == x374000 && (x373001 == x374001 && (x373002 == x374002 && (x373003 == x374003 && (x373004 == x374004 && (x373005 == x374005)))))) = true then (if x5 = true then (some (t384.toList == t387.toList)) else (some false)) else (some false)) else (some false))))))))

def impl_keepRules.f (k : Nat) (a0_0 : Int) (a0_1 : Int) (a0_2 : Int) (a0_3 : Int) (a0_4 : Int) (a0_5 : Bool) (a0_6 : Int) (a0_7 : Int) (a0_8 : Int) (a0_9 : Int) (a0_10 : Bool) (a0_11 : ByteArray) (a0_12 : Int) (a1_0 : Int) (a1_1 : Int) (a1_2 : Int) (a1_3 : Int) (a1_4 : Int) (a1_5 : Bool) (a1_6 : Int) (a1_7 : Int) (a1_8 : Int) (a1_9 : Int) (a1_10 : Bool) (a1_11 : ByteArray) (a1_12 : Int) : Option (Bool) := (impl_Hand_moves.f a1_0 a1_1 a1_2 a1_3 a1_4 a1_5 a1_6 a1_7 a1_8 a1_9 a1_10 a1_11 a1_12).bind fun t374 => (if t374 = true then (if (a1_6 == a0_6 && (a1_7 == a0_7)) = true then (impl_keepRules.j0 k true a0_0 a0_1 a0_2 a0_3 a0_4 a0_5 a0_6 a0_7 a0_8 a0_9 a0_10 a0_11 a0_12 a1_0 a1_1 a1_2 a1_3 a1_4 a1_5 a1_6 a1_7 a1_8 a1_9 a1_10 a1_11 a1_12) else ((impl_Orient_mirrored.f a0_6 a0_7).bind fun bt379 => (impl_keepRules.j0 k (a1_6 == bt379.1 && (a1_7 == bt379.2)) a0_0 a0_1 a0_2 a0_3 a0_4 a0_5 a0_6 a0_7 a0_8 a0_9 a0_10 a0_11 a0_12 a1_0 a1_1 a1_2 a1_3 a1_4 a1_5 a1_6 a1_7 a1_8 a1_9 a1_10 a1_11 a1_12))) else (if (a1_0 == a0_0 && (a1_1 == a0_1 && (a1_2 == a0_2 && (a1_3 == a0_3 && (a1_4 == a0_4 && (a1_5 == a0_5)))))) = true then (some true) else ((impl_PlainShapes.f k).bind fun t375 => ((impl_Shape_169.f k t375 a1_0 a1_1 a1_2 a1_3 a1_4 a1_5).bind fun t378 => (some t378)))))

theorem impl_keepRules.mono_l : ∀ k, (∀ y0 y1 y2 y3 y4 y5 y6 y7 y8 y9 y10 y11 y12 y13 y14 y15 y16 y17 y18 y19 y20 y21 y22 y23 y24 y25 y26, LeO (impl_keepRules.j0 k y0 y1 y2 y3 y4 y5 y6 y7 y8 y9 y10 y11 y12 y13 y14 y15 y16 y17 y18 y19 y20 y21 y22 y23 y24 y25 y26) (impl_keepRules.j0 (k + 1) y0 y1 y2 y3 y4 y5 y6 y7 y8 y9 y10 y11 y12 y13 y14 y15 y16 y17 y18 y19 y20 y21 y22 y23 y24 y25 y26))
  | 0 => fun _ _ _ _ _ _ _ _ _ _ _ _ _ _ _ _ _ _ _ _ _ _ _ _ _ _ _ r h => by simp [impl_keepRules.j0] at h
  | k + 1 => by
    have ih0 := impl_keepRules.mono_l k
    · intro y0 y1 y2 y3 y4 y5 y6 y7 y8 y9 y10 y11 y12 y13 y14 y15 y16 y17 y18 y19 y20 y21 y22 y23 y24 y25 y26
      unfold impl_keepRules.j0
      repeat' first
      | (with_reducible exact ih0 _ _ _ _ _ _ _ _ _ _ _ _ _ _ _ _ _ _ _ _ _ _ _ _ _ _ _)
      | (with_reducible exact impl_PlainShapes.mono _)
      | (with_reducible exact impl_Shape_169.mono _ _ _ _ _ _ _ _)
      | (with_reducible exact LeO.refl _)
      | (with_reducible exact LeO.none _)
      | (with_reducible refine LeO.ite ?_ ?_)
      | (with_reducible refine LeO.bind ?_ (fun _ => ?_))
      | exact ih0 _ _ _ _ _ _ _ _ _ _ _ _ _ _ _ _ _ _ _ _ _ _ _ _ _ _ _
      | exact impl_PlainShapes.mono _
      | exact impl_Shape_169.mono _ _ _ _ _ _ _ _
      | exact LeO.none _
      | refine LeO.ite ?_ ?_
      | refine LeO.bind ?_ (fun _ => ?_)

theorem impl_keepRules.mono : ∀ a0 a1 a2 a3 a4 a5 a6 a7 a8 a9 a10 a11 a12 a13 a14 a15 a16 a17 a18 a19 a20 a21 a22 a23 a24 a25 k, LeO (impl_keepRules.f k a0 a1 a2 a3 a4 a5 a6 a7 a8 a9 a10 a11 a12 a13 a14 a15 a16 a17 a18 a19 a20 a21 a22 a23 a24 a25) (impl_keepRules.f (k + 1) a0 a1 a2 a3 a4 a5 a6 a7 a8 a9 a10 a11 a12 a13 a14 a15 a16 a17 a18 a19 a20 a21 a22 a23 a24 a25) := by
  intro a0 a1 a2 a3 a4 a5 a6 a7 a8 a9 a10 a11 a12 a13 a14 a15 a16 a17 a18 a19 a20 a21 a22 a23 a24 a25 k
  have ih0 := impl_keepRules.mono_l k
  unfold impl_keepRules.f
  repeat' first
      | (with_reducible exact ih0 _ _ _ _ _ _ _ _ _ _ _ _ _ _ _ _ _ _ _ _ _ _ _ _ _ _ _)
      | (with_reducible exact impl_PlainShapes.mono _)
      | (with_reducible exact impl_Shape_169.mono _ _ _ _ _ _ _ _)
      | (with_reducible exact LeO.refl _)
      | (with_reducible exact LeO.none _)
      | (with_reducible refine LeO.ite ?_ ?_)
      | (with_reducible refine LeO.bind ?_ (fun _ => ?_))
      | exact ih0 _ _ _ _ _ _ _ _ _ _ _ _ _ _ _ _ _ _ _ _ _ _ _ _ _ _ _
      | exact impl_PlainShapes.mono _
      | exact impl_Shape_169.mono _ _ _ _ _ _ _ _
      | exact LeO.none _
      | refine LeO.ite ?_ ?_
      | refine LeO.bind ?_ (fun _ => ?_)

def impl_keepRules.e (k : Nat) : Refl.Ent G := ⟨126, [(.agg gL0), (.agg gL0)], .one (.c .bool), fun x => impl_keepRules.f k x.1 x.2.1 x.2.2.1 x.2.2.2.1 x.2.2.2.2.1 x.2.2.2.2.2.1 x.2.2.2.2.2.2.1 x.2.2.2.2.2.2.2.1 x.2.2.2.2.2.2.2.2.1 x.2.2.2.2.2.2.2.2.2.1 x.2.2.2.2.2.2.2.2.2.2.1 x.2.2.2.2.2.2.2.2.2.2.2.1 x.2.2.2.2.2.2.2.2.2.2.2.2.1 x.2.2.2.2.2.2.2.2.2.2.2.2.2.1 x.2.2.2.2.2.2.2.2.2.2.2.2.2.2.1 x.2.2.2.2.2.2.2.2.2.2.2.2.2.2.2.1 x.2.2.2.2.2.2.2.2.2.2.2.2.2.2.2.2.1 x.2.2.2.2.2.2.2.2.2.2.2.2.2.2.2.2.2.1 x.2.2.2.2.2.2.2.2.2.2.2.2.2.2.2.2.2.2.1 x.2.2.2.2.2.2.2.2.2.2.2.2.2.2.2.2.2.2.2.1 x.2.2.2.2.2.2.2.2.2.2.2.2.2.2.2.2.2.2.2.2.1 x.2.2.2.2.2.2.2.2.2.2.2.2.2.2.2.2.2.2.2.2.2.1 x.2.2.2.2.2.2.2.2.2.2.2.2.2.2.2.2.2.2.2.2.2.2.1 x.2.2.2.2.2.2.2.2.2.2.2.2.2.2.2.2.2.2.2.2.2.2.2.1 x.2.2.2.2.2.2.2.2.2.2.2.2.2.2.2.2.2.2.2.2.2.2.2.2.1 x.2.2.2.2.2.2.2.2.2.2.2.2.2.2.2.2.2.2.2.2.2.2.2.2.2⟩
def impl_keepRules.pj0 : Refl.Pn G (Refl.PT G (impl_keepRules.e 0).ol) := ⟨false, 1000003, ⟨[(5, .v (.c .bool)), (2, .box 2 0), (3, .box 3 0), (4, .k (Value.bool false))], [(2, 31, gL5), (3, 31, gL5)]⟩, fun k x => impl_keepRules.j0 k x.1 x.2.1 x.2.2.1 x.2.2.2.1 x.2.2.2.2.1 x.2.2.2.2.2.1 x.2.2.2.2.2.2.1 x.2.2.2.2.2.2.2.1 x.2.2.2.2.2.2.2.2.1 x.2.2.2.2.2.2.2.2.2.1 x.2.2.2.2.2.2.2.2.2.2.1 x.2.2.2.2.2.2.2.2.2.2.2.1 x.2.2.2.2.2.2.2.2.2.2.2.2.1 x.2.2.2.2.2.2.2.2.2.2.2.2.2.1 x.2.2.2.2.2.2.2.2.2.2.2.2.2.2.1 x.2.2.2.2.2.2.2.2.2.2.2.2.2.2.2.1 x.2.2.2.2.2.2.2.2.2.2.2.2.2.2.2.2.1 x.2.2.2.2.2.2.2.2.2.2.2.2.2.2.2.2.2.1 x.2.2.2.2.2.2.2.2.2.2.2.2.2.2.2.2.2.2.1 x.2.2.2.2.2.2.2.2.2.2.2.2.2.2.2.2.2.2.2.1 x.2.2.2.2.2.2.2.2.2.2.2.2.2.2.2.2.2.2.2.2.1 x.2.2.2.2.2.2.2.2.2.2.2.2.2.2.2.2.2.2.2.2.2.1 x.2.2.2.2.2.2.2.2.2.2.2.2.2.2.2.2.2.2.2.2.2.2.1 x.2.2.2.2.2.2.2.2.2.2.2.2.2.2.2.2.2.2.2.2.2.2.2.1 x.2.2.2.2.2.2.2.2.2.2.2.2.2.2.2.2.2.2.2.2.2.2.2.2.1 x.2.2.2.2.2.2.2.2.2.2.2.2.2.2.2.2.2.2.2.2.2.2.2.2.2.1 x.2.2.2.2.2.2.2.2.2.2.2.2.2.2.2.2.2.2.2.2.2.2.2.2.2.2⟩
theorem impl_keepRules.ok (k : Nat) : Refl.EntOK Tryz.prog (impl_keepRules.e k) := Refl.ent_ok 1000000 k GC (fun k => [impl_Hand_moves.e k, impl_PlainShapes.e k, impl_Shape_169.e k, impl_Orient_mirrored.e k, impl_Move_all.e k, impl_Move_mirrored.e k]) (fun k => ⟨impl_Hand_moves.ok k, impl_PlainShapes.ok k, impl_Shape_169.ok k, impl_Orient_mirrored.ok k, impl_Move_all.ok k, impl_Move_mirrored.ok k, trivial⟩) Tryz.func126 (by kernel_rfl) [impl_keepRules.pj0] (ps := [impl_keepRules.pj0]) (by kernel_rfl) ⟨⟨fun x => by kernel_rfl, fun k x => by kernel_rfl⟩, trivial⟩ (fun x => by kernel_rfl)

/-! ### impl_IsSign: function 74 -/

def impl_IsSign.f (k : Nat) (a0_0 : Int) (a0_1 : Int) (a0_2 : Int) (a0_3 : Int) (a0_4 : Int) (a0_5 : Bool) (a0_6 : Int) (a0_7 : Int) (a0_8 : Int) (a0_9 : Int) (a0_10 : Bool) (a0_11 : ByteArray) (a0_12 : Int) (a0_13 : Bool) (a0_14 : Int) (a0_15 : Int) (a0_16 : Int) (a0_17 : Int) (a0_18 : Int) (a0_19 : Bool) (a0_20 : Int) (a0_21 : Int) (a0_22 : Int) (a0_23 : Int) (a0_24 : Bool) (a0_25 : ByteArray) (a0_26 : Int) : Option (Bool) := (impl_IsHand.f k a0_0 a0_1 a0_2 a0_3 a0_4 a0_5 a0_6 a0_7 a0_8 a0_9 a0_10 a0_11 a0_12).bind fun t390 => (if t390 = true then (if a0_13 = true then ((impl_IsHand.f k a0_14 a0_15 a0_16 a0_17 a0_18 a0_19 a0_20 a0_21 a0_22 a0_23 a0_24 a0_25 a0_26).bind fun t391 => (if t391 = true then ((impl_keepRules.f k a0_0 a0_1 a0_2 a0_3 a0_4 a0_5 a0_6 a0_7 a0_8 a0_9 a0_10 a0_11 a0_12 a0_14 a0_15 a0_16 a0_17 a0_18 a0_19 a0_20 a0_21 a0_22 a0_23 a0_24 a0_25 a0_26).bind fun t392 => (some t392)) else (some false))) else (some ((a0_14 == 0 && (a0_15 == 0 && (a0_16 == 0 && (a0_17 == 0 && (a0_18 == 0 && (a0_19 == false)))))) && ((a0_20 == 0 && (a0_21 == 0)) && ((a0_22 == 0 && (a0_23 == 0 && (a0_24 == false))) && ((a0_25.toList == ((⟨#[]⟩ : ByteArray).toList) && (a0_26 == 0)))))))) else (some false))

theorem impl_IsSign.mono : ∀ a0 a1 a2 a3 a4 a5 a6 a7 a8 a9 a10 a11 a12 a13 a14 a15 a16 a17 a18 a19 a20 a21 a22 a23 a24 a25 a26 k, LeO (impl_IsSign.f k a0 a1 a2 a3 a4 a5 a6 a7 a8 a9 a10 a11 a12 a13 a14 a15 a16 a17 a18 a19 a20 a21 a22 a23 a24 a25 a26) (impl_IsSign.f (k + 1) a0 a1 a2 a3 a4 a5 a6 a7 a8 a9 a10 a11 a12 a13 a14 a15 a16 a17 a18 a19 a20 a21 a22 a23 a24 a25 a26) := by
  intro a0 a1 a2 a3 a4 a5 a6 a7 a8 a9 a10 a11 a12 a13 a14 a15 a16 a17 a18 a19 a20 a21 a22 a23 a24 a25 a26 k
  unfold impl_IsSign.f
  repeat' first
      | (with_reducible exact impl_IsHand.mono _ _ _ _ _ _ _ _ _ _ _ _ _ _)
      | (with_reducible exact impl_keepRules.mono _ _ _ _ _ _ _ _ _ _ _ _ _ _ _ _ _ _ _ _ _ _ _ _ _ _ _)
      | (with_reducible exact LeO.refl _)
      | (with_reducible exact LeO.none _)
      | (with_reducible refine LeO.ite ?_ ?_)
      | (with_reducible refine LeO.bind ?_ (fun _ => ?_))
      | exact impl_IsHand.mono _ _ _ _ _ _ _ _ _ _ _ _ _ _
      | exact impl_keepRules.mono _ _ _ _ _ _ _ _ _ _ _ _ _ _ _ _ _ _ _ _ _ _ _ _ _ _ _
      | exact LeO.none _
      | refine LeO.ite ?_ ?_
      | refine LeO.bind ?_ (fun _ => ?_)

def impl_IsSign.e (k : Nat) : Refl.Ent G := ⟨74, [(.agg gL1)], .one (.c .bool), fun x => impl_IsSign.f k x.1 x.2.1 x.2.2.1 x.2.2.2.1 x.2.2.2.2.1 x.2.2.2.2.2.1 x.2.2.2.2.2.2.1 x.2.2.2.2.2.2.2.1 x.2.2.2.2.2.2.2.2.1 x.2.2.2.2.2.2.2.2.2.1 x.2.2.2.2.2.2.2.2.2.2.1 x.2.2.2.2.2.2.2.2.2.2.2.1 x.2.2.2.2.2.2.2.2.2.2.2.2.1 x.2.2.2.2.2.2.2.2.2.2.2.2.2.1 x.2.2.2.2.2.2.2.2.2.2.2.2.2.2.1 x.2.2.2.2.2.2.2.2.2.2.2.2.2.2.2.1 x.2.2.2.2.2.2.2.2.2.2.2.2.2.2.2.2.1 x.2.2.2.2.2.2.2.2.2.2.2.2.2.2.2.2.2.1 x.2.2.2.2.2.2.2.2.2.2.2.2.2.2.2.2.2.2.1 x.2.2.2.2.2.2.2.2.2.2.2.2.2.2.2.2.2.2.2.1 x.2.2.2.2.2.2.2.2.2.2.2.2.2.2.2.2.2.2.2.2.1 x.2.2.2.2.2.2.2.2.2.2.2.2.2.2.2.2.2.2.2.2.2.1 x.2.2.2.2.2.2.2.2.2.2.2.2.2.2.2.2.2.2.2.2.2.2.1 x.2.2.2.2.2.2.2.2.2.2.2.2.2.2.2.2.2.2.2.2.2.2.2.1 x.2.2.2.2.2.2.2.2.2.2.2.2.2.2.2.2.2.2.2.2.2.2.2.2.1 x.2.2.2.2.2.2.2.2.2.2.2.2.2.2.2.2.2.2.2.2.2.2.2.2.2.1 x.2.2.2.2.2.2.2.2.2.2.2.2.2.2.2.2.2.2.2.2.2.2.2.2.2.2⟩
theorem impl_IsSign.ok (k : Nat) : Refl.EntOK Tryz.prog (impl_IsSign.e k) := Refl.ent_ok 1000000 k GC (fun k => [impl_IsHand.e k, impl_keepRules.e k]) (fun k => ⟨impl_IsHand.ok k, impl_keepRules.ok k, trivial⟩) Tryz.func74 (by kernel_rfl) [] (ps := []) (by kernel_rfl) trivial (fun x => by kernel_rfl)

/-! ### impl_IsConstraint: function 128 -/

def icMost (k : Int) : Int := if k = 0 then 18 else if k = 1 then 9 else if k = 2 then 4 else if k = 3 then 3 else 9

def impl_IsConstraint.f (a0_0 a0_1 : Int) : Option Bool := some (decide (0 ≤ a0_0 ∧ a0_0 ≤ 4) && decide (0 ≤ a0_1 ∧ a0_1 ≤ icMost a0_0))

theorem ic_within (a b c : Int) : impl_within.f a b c = some (decide (b ≤ a ∧ a ≤ c)) := by
  unfold impl_within.f
  by_cases h : b ≤ a
  · rw [if_pos h]; simp [h]
  · rw [if_neg h]; simp [h]

def impl_IsConstraint.e (k : Nat) : Refl.Ent G := ⟨128, [(.agg [li, li])], .one (.c .bool), fun x => impl_IsConstraint.f x.1 x.2⟩
def ic0.f (a0 a1 : Int) : Option Bool := (impl_within.f a0 0 4).bind fun t => if t = true then (if 0 ≤ a0 then (if a0 < 5 then ((impl_within.f a1 0 (rd [18, 9, 4, 3, 9] a0)).bind fun u => some u) else (none)) else (none)) else (some false)
def ic0.e (k : Nat) : Refl.Ent G := ⟨128, [(.agg [li, li])], .one (.c .bool), fun x => ic0.f x.1 x.2⟩
theorem ic0.ok (k : Nat) : Refl.EntOK Tryz.prog (ic0.e k) := Refl.ent_ok 1000000 k GC (fun k => [impl_within.e k]) (fun k => ⟨impl_within.ok k, trivial⟩) Tryz.func128 (by kernel_rfl) [] (ps := []) (by kernel_rfl) trivial (fun x => by kernel_rfl)
theorem ic0_eq (a b : Int) : ic0.f a b = impl_IsConstraint.f a b := by
  unfold ic0.f impl_IsConstraint.f
  simp only [ic_within, Option.bind_some]
  by_cases hk : 0 ≤ a ∧ a ≤ 4
  · have h5 : a = 0 ∨ a = 1 ∨ a = 2 ∨ a = 3 ∨ a = 4 := by omega
    rcases h5 with rfl | rfl | rfl | rfl | rfl <;> rfl
  · rw [decide_eq_false hk]
    rfl
theorem impl_IsConstraint.ok (k : Nat) : Refl.EntOK Tryz.prog (impl_IsConstraint.e k) := (ic0.ok 0).weaken _ fun x y h => (ic0_eq x.1 x.2).trans h

/-! ### impl_areConstraints: function 75 -/

def ac1.f (k : Nat) (a0 : Int) (a1 : Int) : Option Bool := (impl_IsConstraint.f a0 a1).bind fun t => some (!t)

def ac2.l0 : Nat → List S112 → Int → Int → Option Int
  | 0, _, _, _ => none
  | k + 1, l, n, i => if i < n then (if 0 ≤ i then (if i < (l.length : Int) then ((ac1.f k ((rd_T112 l i).f0) ((rd_T112 l i).f1)).bind fun t => if t = true then (some i) else (ac2.l0 k l n (wrap64 (i + 1)))) else (none)) else (none)) else (some (-1))

def ac2.f (k : Nat) (l : List S112) : Option Int := ac2.l0 k l (l.length : Int) 0

def ac3.f (k : Nat) (l : List S112) : Option Bool := (ac2.f k l).bind fun t => some (decide (t ≥ 0))

def ac4.f (k : Nat) (l : List S112) : Option Bool := (ac3.f k l).bind fun t => some (!t)

def impl_areConstraints.f (k : Nat) (l0 : List S112) : Option Bool := if (l0.length : Int) ≤ 10 then ((ac4.f k l0).bind fun t => some t) else (some false)

theorem ac1.mono : ∀ a0 a1 k, LeO (ac1.f k a0 a1) (ac1.f (k + 1) a0 a1) := by
  intro a0 a1 k
  unfold ac1.f
  repeat' first
  | exact LeO.refl _
  | exact LeO.none _
  | refine LeO.ite ?_ ?_
  | refine LeO.bind ?_ (fun _ => ?_)

theorem ac2.mono_l : ∀ k l n i, LeO (ac2.l0 k l n i) (ac2.l0 (k + 1) l n i)
  | 0 => fun _ _ _ r h => by simp [ac2.l0] at h
  | k + 1 => by
    have ih := ac2.mono_l k
    intro l n i
    unfold ac2.l0
    repeat' first
    | (with_reducible exact ih _ _ _)
    | (with_reducible exact ac1.mono _ _ _)
    | exact LeO.refl _
    | exact LeO.none _
    | refine LeO.ite ?_ ?_
    | refine LeO.bind ?_ (fun _ => ?_)

theorem ac2.mono : ∀ l k, LeO (ac2.f k l) (ac2.f (k + 1) l) := by
  intro l k
  unfold ac2.f
  repeat' first
  | (with_reducible exact ac2.mono_l _ _ _ _)
  | exact LeO.refl _
  | exact LeO.none _
  | refine LeO.ite ?_ ?_
  | refine LeO.bind ?_ (fun _ => ?_)

theorem ac3.mono : ∀ l k, LeO (ac3.f k l) (ac3.f (k + 1) l) := by
  intro l k
  unfold ac3.f
  repeat' first
  | (with_reducible exact ac2.mono _ _)
  | exact LeO.refl _
  | exact LeO.none _
  | refine LeO.ite ?_ ?_
  | refine LeO.bind ?_ (fun _ => ?_)

theorem ac4.mono : ∀ l k, LeO (ac4.f k l) (ac4.f (k + 1) l) := by
  intro l k
  unfold ac4.f
  repeat' first
  | (with_reducible exact ac3.mono _ _)
  | exact LeO.refl _
  | exact LeO.none _
  | refine LeO.ite ?_ ?_
  | refine LeO.bind ?_ (fun _ => ?_)

theorem impl_areConstraints.mono : ∀ l0 k, LeO (impl_areConstraints.f k l0) (impl_areConstraints.f (k + 1) l0) := by
  intro l0 k
  unfold impl_areConstraints.f
  repeat' first
  | (with_reducible exact ac4.mono _ _)
  | exact LeO.refl _
  | exact LeO.none _
  | refine LeO.ite ?_ ?_
  | refine LeO.bind ?_ (fun _ => ?_)

def impl_areConstraints.e (k : Nat) : Refl.Ent G := ⟨75, [(.c (.row 112 false))], .one (.c .bool), fun x => impl_areConstraints.f k x⟩
def ac1.e (k : Nat) : Refl.Ent G := ⟨175, [.agg [li, li], .ref [.fn 128]], .one (.c .bool), fun x => ac1.f k x.1 x.2.1⟩
theorem ac1.ok (k : Nat) : Refl.EntOK Tryz.prog (ac1.e k) := Refl.ent_ok 1000000 k GC (fun k => [impl_IsConstraint.e k]) (fun k => ⟨impl_IsConstraint.ok k, trivial⟩) Tryz.func175 (by kernel_rfl) [] (ps := []) (by kernel_rfl) trivial (fun x => by kernel_rfl)
def ac2.e (k : Nat) : Refl.Ent G := ⟨199, [.c (.row 112 false), .clo 175 [[.fn 128]]], .one (.c li), fun x => ac2.f k x.1⟩
def ac2.p : Refl.Pn G (Refl.PT G (ac2.e 0).ol) := ⟨true, 0, ⟨[(0, .v (.c (.row 112 false))), (1, .v (.clo 175 [[.fn 128]])), (7, .v (.c li)), (8, .v (.c li)), (4, .k (.int .i64 0))], []⟩, fun k x => ac2.l0 k x.1 x.2.2.1 x.2.2.2⟩
theorem ac2.ok (k : Nat) : Refl.EntOK Tryz.prog (ac2.e k) := Refl.ent_ok 1000000 k GC (fun k => [ac1.e k]) (fun k => ⟨ac1.ok k, trivial⟩) Tryz.func199 (by kernel_rfl) [ac2.p] (ps := [ac2.p]) (by kernel_rfl) ⟨⟨fun x => by kernel_rfl, fun k x => by kernel_rfl⟩, trivial⟩ (fun x => by kernel_rfl)
def ac3.e (k : Nat) : Refl.Ent G := ⟨174, [.c (.row 112 false), .clo 175 [[.fn 128]]], .one (.c .bool), fun x => ac3.f k x.1⟩
theorem ac3.ok (k : Nat) : Refl.EntOK Tryz.prog (ac3.e k) := Refl.ent_ok 1000000 k GC (fun k => [ac2.e k]) (fun k => ⟨ac2.ok k, trivial⟩) Tryz.func174 (by kernel_rfl) [] (ps := []) (by kernel_rfl) trivial (fun x => by kernel_rfl)
def ac4.e (k : Nat) : Refl.Ent G := ⟨127, [.c (.row 112 false), .clo 128 []], .one (.c .bool), fun x => ac4.f k x⟩
theorem ac4.ok (k : Nat) : Refl.EntOK Tryz.prog (ac4.e k) := Refl.ent_ok 1000000 k GC (fun k => [ac3.e k]) (fun k => ⟨ac3.ok k, trivial⟩) Tryz.func127 (by kernel_rfl) [] (ps := []) (by kernel_rfl) trivial (fun x => by kernel_rfl)
theorem impl_areConstraints.ok (k : Nat) : Refl.EntOK Tryz.prog (impl_areConstraints.e k) := Refl.ent_ok 1000000 k GC (fun k => [ac4.e k]) (fun k => ⟨ac4.ok k, trivial⟩) Tryz.func75 (by kernel_rfl) [] (ps := []) (by kernel_rfl) trivial (fun x => by kernel_rfl)

/-! ### impl_BrokenBy: function 42 -/

def bb1.f (c0 : Int) (c1 : Int) (s0 : Int) (s1 : Int) (s2 : Int) (s3 : Int) (s4 : Int) (s5 : Bool) (s6 : Int) (s7 : Int) (s8 : Int) (s9 : Int) (s10 : Bool) (s11 : ByteArray) (s12 : Int) (s13 : Bool) (s14 : Int) (s15 : Int) (s16 : Int) (s17 : Int) (s18 : Int) (s19 : Bool) (s20 : Int) (s21 : Int) (s22 : Int) (s23 : Int) (s24 : Bool) (s25 : ByteArray) (s26 : Int) : Option Bool := (impl_Constraint_keptBy.f c0 c1 s0 s1 s2 s3 s4 s5 s6 s7 s8 s9 s10 s11 s12 s13 s14 s15 s16 s17 s18 s19 s20 s21 s22 s23 s24 s25 s26).bind fun t => some (!t)

def bb2.l0 : Nat → List S112 → Int → Int → List Int → Int → Int → Int → Int → Int → Bool → Int → Int → Int → Int → Bool → ByteArray → Int → Bool → Int → Int → Int → Int → Int → Bool → Int → Int → Int → Int → Bool → ByteArray → Int → Option (List Int)
  | 0, _, _, _, _, _, _, _, _, _, _, _, _, _, _, _, _, _, _, _, _, _, _, _, _, _, _, _, _, _, _, _ => none
  | k + 1, l, n, i, o, s0, s1, s2, s3, s4, s5, s6, s7, s8, s9, s10, s11, s12, s13, s14, s15, s16, s17, s18, s19, s20, s21, s22, s23, s24, s25, s26 => if i < n then (if 0 ≤ i then (if i < (l.length : Int) then ((bb1.f ((rd_T112 l i).f0) ((rd_T112 l i).f1) s0 s1 s2 s3 s4 s5 s6 s7 s8 s9 s10 s11 s12 s13 s14 s15 s16 s17 s18 s19 s20 s21 s22 s23 s24 s25 s26).bind fun t => if t = true then (if o.length < 17592186044416 then (bb2.l0 k l n (wrap64 (i + 1)) (o ++ [i]) s0 s1 s2 s3 s4 s5 s6 s7 s8 s9 s10 s11 s12 s13 s14 s15 s16 s17 s18 s19 s20 s21 s22 s23 s24 s25 s26) else (none)) else (bb2.l0 k l n (wrap64 (i + 1)) o s0 s1 s2 s3 s4 s5 s6 s7 s8 s9 s10 s11 s12 s13 s14 s15 s16 s17 s18 s19 s20 s21 s22 s23 s24 s25 s26)) else (none)) else (none)) else (some o)

def bb2.f (k : Nat) (l : List S112) (s0 : Int) (s1 : Int) (s2 : Int) (s3 : Int) (s4 : Int) (s5 : Bool) (s6 : Int) (s7 : Int) (s8 : Int) (s9 : Int) (s10 : Bool) (s11 : ByteArray) (s12 : Int) (s13 : Bool) (s14 : Int) (s15 : Int) (s16 : Int) (s17 : Int) (s18 : Int) (s19 : Bool) (s20 : Int) (s21 : Int) (s22 : Int) (s23 : Int) (s24 : Bool) (s25 : ByteArray) (s26 : Int) : Option (List Int) := bb2.l0 k l (l.length : Int) 0 ([] : List Int) s0 s1 s2 s3 s4 s5 s6 s7 s8 s9 s10 s11 s12 s13 s14 s15 s16 s17 s18 s19 s20 s21 s22 s23 s24 s25 s26

def impl_BrokenBy.f (k : Nat) (a0_0 : Int) (a0_1 : Int) (a0_2 : Int) (a0_3 : Int) (a0_4 : Int) (a0_5 : Bool) (a0_6 : Int) (a0_7 : Int) (a0_8 : Int) (a0_9 : Int) (a0_10 : Bool) (a0_11 : ByteArray) (a0_12 : Int) (a0_13 : Bool) (a0_14 : Int) (a0_15 : Int) (a0_16 : Int) (a0_17 : Int) (a0_18 : Int) (a0_19 : Bool) (a0_20 : Int) (a0_21 : Int) (a0_22 : Int) (a0_23 : Int) (a0_24 : Bool) (a0_25 : ByteArray) (a0_26 : Int) (l1 : List S112) : Option (List Int × Bool) := (impl_IsSign.f k a0_0 a0_1 a0_2 a0_3 a0_4 a0_5 a0_6 a0_7 a0_8 a0_9 a0_10 a0_11 a0_12 a0_13 a0_14 a0_15 a0_16 a0_17 a0_18 a0_19 a0_20 a0_21 a0_22 a0_23 a0_24 a0_25 a0_26).bind fun t => if t = true then ((impl_areConstraints.f k l1).bind fun u => if u = true then ((bb2.f k l1 a0_0 a0_1 a0_2 a0_3 a0_4 a0_5 a0_6 a0_7 a0_8 a0_9 a0_10 a0_11 a0_12 a0_13 a0_14 a0_15 a0_16 a0_17 a0_18 a0_19 a0_20 a0_21 a0_22 a0_23 a0_24 a0_25 a0_26).bind fun r => some (r, true)) else some (([] : List Int), false)) else some (([] : List Int), false)

theorem bb2.mono_l : ∀ k l n i o s0 s1 s2 s3 s4 s5 s6 s7 s8 s9 s10 s11 s12 s13 s14 s15 s16 s17 s18 s19 s20 s21 s22 s23 s24 s25 s26, LeO (bb2.l0 k l n i o s0 s1 s2 s3 s4 s5 s6 s7 s8 s9 s10 s11 s12 s13 s14 s15 s16 s17 s18 s19 s20 s21 s22 s23 s24 s25 s26) (bb2.l0 (k + 1) l n i o s0 s1 s2 s3 s4 s5 s6 s7 s8 s9 s10 s11 s12 s13 s14 s15 s16 s17 s18 s19 s20 s21 s22 s23 s24 s25 s26)
  | 0 => fun _ _ _ _ _ _ _ _ _ _ _ _ _ _ _ _ _ _ _ _ _ _ _ _ _ _ _ _ _ _ _ r h => by simp [bb2.l0] at h
  | k + 1 => by
    have ih := bb2.mono_l k
    intro l n i o s0 s1 s2 s3 s4 s5 s6 s7 s8 s9 s10 s11 s12 s13 s14 s15 s16 s17 s18 s19 s20 s21 s22 s23 s24 s25 s26
    unfold bb2.l0
    repeat' first
    | (with_reducible exact ih _ _ _ _ _ _ _ _ _ _ _ _ _ _ _ _ _ _ _ _ _ _ _ _ _ _ _ _ _ _ _)
    | exact LeO.refl _
    | exact LeO.none _
    | refine LeO.ite ?_ ?_
    | refine LeO.bind ?_ (fun _ => ?_)

theorem impl_BrokenBy.mono : ∀ a0_0 a0_1 a0_2 a0_3 a0_4 a0_5 a0_6 a0_7 a0_8 a0_9 a0_10 a0_11 a0_12 a0_13 a0_14 a0_15 a0_16 a0_17 a0_18 a0_19 a0_20 a0_21 a0_22 a0_23 a0_24 a0_25 a0_26 l1 k, LeO (impl_BrokenBy.f k a0_0 a0_1 a0_2 a0_3 a0_4 a0_5 a0_6 a0_7 a0_8 a0_9 a0_10 a0_11 a0_12 a0_13 a0_14 a0_15 a0_16 a0_17 a0_18 a0_19 a0_20 a0_21 a0_22 a0_23 a0_24 a0_25 a0_26 l1) (impl_BrokenBy.f (k + 1) a0_0 a0_1 a0_2 a0_3 a0_4 a0_5 a0_6 a0_7 a0_8 a0_9 a0_10 a0_11 a0_12 a0_13 a0_14 a0_15 a0_16 a0_17 a0_18 a0_19 a0_20 a0_21 a0_22 a0_23 a0_24 a0_25 a0_26 l1) := by
    intro a0_0 a0_1 a0_2 a0_3 a0_4 a0_5 a0_6 a0_7 a0_8 a0_9 a0_10 a0_11 a0_12 a0_13 a0_14 a0_15 a0_16 a0_17 a0_18 a0_19 a0_20 a0_21 a0_22 a0_23 a0_24 a0_25 a0_26 l1 k
    unfold impl_BrokenBy.f bb2.f
    repeat' first
    | (with_reducible exact bb2.mono_l _ _ _ _ _ _ _ _ _ _ _ _ _ _ _ _ _ _ _ _ _ _ _ _ _ _ _ _ _ _ _ _)
    | (with_reducible exact impl_IsSign.mono _ _ _ _ _ _ _ _ _ _ _ _ _ _ _ _ _ _ _ _ _ _ _ _ _ _ _ _)
    | (with_reducible exact impl_areConstraints.mono _ _)
    | exact LeO.refl _
    | exact LeO.none _
    | refine LeO.ite ?_ ?_
    | refine LeO.bind ?_ (fun _ => ?_)

def impl_BrokenBy.e (k : Nat) : Refl.Ent G := ⟨42, [(.agg gL1), (.c (.row 112 false))], .tup [(.c (.own 3)), (.c .bool)], fun x => impl_BrokenBy.f k x.1 x.2.1 x.2.2.1 x.2.2.2.1 x.2.2.2.2.1 x.2.2.2.2.2.1 x.2.2.2.2.2.2.1 x.2.2.2.2.2.2.2.1 x.2.2.2.2.2.2.2.2.1 x.2.2.2.2.2.2.2.2.2.1 x.2.2.2.2.2.2.2.2.2.2.1 x.2.2.2.2.2.2.2.2.2.2.2.1 x.2.2.2.2.2.2.2.2.2.2.2.2.1 x.2.2.2.2.2.2.2.2.2.2.2.2.2.1 x.2.2.2.2.2.2.2.2.2.2.2.2.2.2.1 x.2.2.2.2.2.2.2.2.2.2.2.2.2.2.2.1 x.2.2.2.2.2.2.2.2.2.2.2.2.2.2.2.2.1 x.2.2.2.2.2.2.2.2.2.2.2.2.2.2.2.2.2.1 x.2.2.2.2.2.2.2.2.2.2.2.2.2.2.2.2.2.2.1 x.2.2.2.2.2.2.2.2.2.2.2.2.2.2.2.2.2.2.2.1 x.2.2.2.2.2.2.2.2.2.2.2.2.2.2.2.2.2.2.2.2.1 x.2.2.2.2.2.2.2.2.2.2.2.2.2.2.2.2.2.2.2.2.2.1 x.2.2.2.2.2.2.2.2.2.2.2.2.2.2.2.2.2.2.2.2.2.2.1 x.2.2.2.2.2.2.2.2.2.2.2.2.2.2.2.2.2.2.2.2.2.2.2.1 x.2.2.2.2.2.2.2.2.2.2.2.2.2.2.2.2.2.2.2.2.2.2.2.2.1 x.2.2.2.2.2.2.2.2.2.2.2.2.2.2.2.2.2.2.2.2.2.2.2.2.2.1 x.2.2.2.2.2.2.2.2.2.2.2.2.2.2.2.2.2.2.2.2.2.2.2.2.2.2.1 x.2.2.2.2.2.2.2.2.2.2.2.2.2.2.2.2.2.2.2.2.2.2.2.2.2.2.2⟩
def bb1.e (k : Nat) : Refl.Ent G := ⟨77, [.agg [li, li], .ref [li, li, li, li, li, .bool, li, li, li, li, .bool, .str, li, .bool, li, li, li, li, li, .bool, li, li, li, li, .bool, .str, li]], .one (.c .bool), fun x => bb1.f x.1 x.2.1 x.2.2.1 x.2.2.2.1 x.2.2.2.2.1 x.2.2.2.2.2.1 x.2.2.2.2.2.2.1 x.2.2.2.2.2.2.2.1 x.2.2.2.2.2.2.2.2.1 x.2.2.2.2.2.2.2.2.2.1 x.2.2.2.2.2.2.2.2.2.2.1 x.2.2.2.2.2.2.2.2.2.2.2.1 x.2.2.2.2.2.2.2.2.2.2.2.2.1 x.2.2.2.2.2.2.2.2.2.2.2.2.2.1 x.2.2.2.2.2.2.2.2.2.2.2.2.2.2.1 x.2.2.2.2.2.2.2.2.2.2.2.2.2.2.2.1 x.2.2.2.2.2.2.2.2.2.2.2.2.2.2.2.2.1 x.2.2.2.2.2.2.2.2.2.2.2.2.2.2.2.2.2.1 x.2.2.2.2.2.2.2.2.2.2.2.2.2.2.2.2.2.2.1 x.2.2.2.2.2.2.2.2.2.2.2.2.2.2.2.2.2.2.2.1 x.2.2.2.2.2.2.2.2.2.2.2.2.2.2.2.2.2.2.2.2.1 x.2.2.2.2.2.2.2.2.2.2.2.2.2.2.2.2.2.2.2.2.2.1 x.2.2.2.2.2.2.2.2.2.2.2.2.2.2.2.2.2.2.2.2.2.2.1 x.2.2.2.2.2.2.2.2.2.2.2.2.2.2.2.2.2.2.2.2.2.2.2.1 x.2.2.2.2.2.2.2.2.2.2.2.2.2.2.2.2.2.2.2.2.2.2.2.2.1 x.2.2.2.2.2.2.2.2.2.2.2.2.2.2.2.2.2.2.2.2.2.2.2.2.2.1 x.2.2.2.2.2.2.2.2.2.2.2.2.2.2.2.2.2.2.2.2.2.2.2.2.2.2.1 x.2.2.2.2.2.2.2.2.2.2.2.2.2.2.2.2.2.2.2.2.2.2.2.2.2.2.2.1 x.2.2.2.2.2.2.2.2.2.2.2.2.2.2.2.2.2.2.2.2.2.2.2.2.2.2.2.2⟩
theorem bb1.ok (k : Nat) : Refl.EntOK Tryz.prog (bb1.e k) := Refl.ent_ok 1000000 k GC (fun k => [impl_Constraint_keptBy.e k]) (fun k => ⟨impl_Constraint_keptBy.ok k, trivial⟩) Tryz.func77 (by kernel_rfl) [] (ps := []) (by kernel_rfl) trivial (fun x => by kernel_rfl)
def bb2.e (k : Nat) : Refl.Ent G := ⟨76, [.c (.row 112 false), .clo 77 [[li, li, li, li, li, .bool, li, li, li, li, .bool, .str, li, .bool, li, li, li, li, li, .bool, li, li, li, li, .bool, .str, li]]], .one (.c (.own 3)), fun x => bb2.f k x.1 x.2.1 x.2.2.1 x.2.2.2.1 x.2.2.2.2.1 x.2.2.2.2.2.1 x.2.2.2.2.2.2.1 x.2.2.2.2.2.2.2.1 x.2.2.2.2.2.2.2.2.1 x.2.2.2.2.2.2.2.2.2.1 x.2.2.2.2.2.2.2.2.2.2.1 x.2.2.2.2.2.2.2.2.2.2.2.1 x.2.2.2.2.2.2.2.2.2.2.2.2.1 x.2.2.2.2.2.2.2.2.2.2.2.2.2.1 x.2.2.2.2.2.2.2.2.2.2.2.2.2.2.1 x.2.2.2.2.2.2.2.2.2.2.2.2.2.2.2.1 x.2.2.2.2.2.2.2.2.2.2.2.2.2.2.2.2.1 x.2.2.2.2.2.2.2.2.2.2.2.2.2.2.2.2.2.1 x.2.2.2.2.2.2.2.2.2.2.2.2.2.2.2.2.2.2.1 x.2.2.2.2.2.2.2.2.2.2.2.2.2.2.2.2.2.2.2.1 x.2.2.2.2.2.2.2.2.2.2.2.2.2.2.2.2.2.2.2.2.1 x.2.2.2.2.2.2.2.2.2.2.2.2.2.2.2.2.2.2.2.2.2.1 x.2.2.2.2.2.2.2.2.2.2.2.2.2.2.2.2.2.2.2.2.2.2.1 x.2.2.2.2.2.2.2.2.2.2.2.2.2.2.2.2.2.2.2.2.2.2.2.1 x.2.2.2.2.2.2.2.2.2.2.2.2.2.2.2.2.2.2.2.2.2.2.2.2.1 x.2.2.2.2.2.2.2.2.2.2.2.2.2.2.2.2.2.2.2.2.2.2.2.2.2.1 x.2.2.2.2.2.2.2.2.2.2.2.2.2.2.2.2.2.2.2.2.2.2.2.2.2.2.1 x.2.2.2.2.2.2.2.2.2.2.2.2.2.2.2.2.2.2.2.2.2.2.2.2.2.2.2⟩
def bb2.p : Refl.Pn G (Refl.PT G (bb2.e 0).ol) := ⟨true, 0, ⟨[(1, .v (.clo 77 [[li, li, li, li, li, .bool, li, li, li, li, .bool, .str, li, .bool, li, li, li, li, li, .bool, li, li, li, li, .bool, .str, li]])), (8, .v (.c (.row 112 false))), (9, .v (.c li)), (10, .v (.c li)), (5, .v (.c (.own 3)))], []⟩, fun k x => bb2.l0 k x.2.2.2.2.2.2.2.2.2.2.2.2.2.2.2.2.2.2.2.2.2.2.2.2.2.2.2.1 x.2.2.2.2.2.2.2.2.2.2.2.2.2.2.2.2.2.2.2.2.2.2.2.2.2.2.2.2.1 x.2.2.2.2.2.2.2.2.2.2.2.2.2.2.2.2.2.2.2.2.2.2.2.2.2.2.2.2.2.1 x.2.2.2.2.2.2.2.2.2.2.2.2.2.2.2.2.2.2.2.2.2.2.2.2.2.2.2.2.2.2 x.1 x.2.1 x.2.2.1 x.2.2.2.1 x.2.2.2.2.1 x.2.2.2.2.2.1 x.2.2.2.2.2.2.1 x.2.2.2.2.2.2.2.1 x.2.2.2.2.2.2.2.2.1 x.2.2.2.2.2.2.2.2.2.1 x.2.2.2.2.2.2.2.2.2.2.1 x.2.2.2.2.2.2.2.2.2.2.2.1 x.2.2.2.2.2.2.2.2.2.2.2.2.1 x.2.2.2.2.2.2.2.2.2.2.2.2.2.1 x.2.2.2.2.2.2.2.2.2.2.2.2.2.2.1 x.2.2.2.2.2.2.2.2.2.2.2.2.2.2.2.1 x.2.2.2.2.2.2.2.2.2.2.2.2.2.2.2.2.1 x.2.2.2.2.2.2.2.2.2.2.2.2.2.2.2.2.2.1 x.2.2.2.2.2.2.2.2.2.2.2.2.2.2.2.2.2.2.1 x.2.2.2.2.2.2.2.2.2.2.2.2.2.2.2.2.2.2.2.1 x.2.2.2.2.2.2.2.2.2.2.2.2.2.2.2.2.2.2.2.2.1 x.2.2.2.2.2.2.2.2.2.2.2.2.2.2.2.2.2.2.2.2.2.1 x.2.2.2.2.2.2.2.2.2.2.2.2.2.2.2.2.2.2.2.2.2.2.1 x.2.2.2.2.2.2.2.2.2.2.2.2.2.2.2.2.2.2.2.2.2.2.2.1 x.2.2.2.2.2.2.2.2.2.2.2.2.2.2.2.2.2.2.2.2.2.2.2.2.1 x.2.2.2.2.2.2.2.2.2.2.2.2.2.2.2.2.2.2.2.2.2.2.2.2.2.1 x.2.2.2.2.2.2.2.2.2.2.2.2.2.2.2.2.2.2.2.2.2.2.2.2.2.2.1⟩
theorem bb2.ok (k : Nat) : Refl.EntOK Tryz.prog (bb2.e k) := Refl.ent_ok 1000000 k GC (fun k => [bb1.e k]) (fun k => ⟨bb1.ok k, trivial⟩) Tryz.func76 (by kernel_rfl) [bb2.p] (ps := [bb2.p]) (by kernel_rfl) ⟨⟨fun x => by kernel_rfl, fun k x => by kernel_rfl⟩, trivial⟩ (fun x => by kernel_rfl)
theorem impl_BrokenBy.ok (k : Nat) : Refl.EntOK Tryz.prog (impl_BrokenBy.e k) := Refl.ent_ok 1000000 k GC (fun k => [impl_IsSign.e k, impl_areConstraints.e k, bb2.e k]) (fun k => ⟨impl_IsSign.ok k, impl_areConstraints.ok k, bb2.ok k, trivial⟩) Tryz.func42 (by kernel_rfl) [] (ps := []) (by kernel_rfl) trivial (fun x => by kernel_rfl)

end Go.Proofs.YtcicpmhcmlfhbaaGreatDoor.PA
