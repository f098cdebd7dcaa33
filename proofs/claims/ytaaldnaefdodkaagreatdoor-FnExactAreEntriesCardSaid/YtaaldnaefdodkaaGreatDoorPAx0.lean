-- Written by a program of this session (wip/tools/myprint.py). Not trusted: Lean checks it.
import Derived.Test.YtaaldnaefdodkaaGreatDoorProg
import Derived.Below
import Derived.Deep.Draws
import Derived.Deep.AppendLies
import Derived.Maps.AppendAt
import Derived.OwnWalk
import Derived.Laws.BytesArg
import Derived.Laws.MakeOwn
import Derived.Laws.OwnMore
import Derived.Deep.OwnRows
import Derived.Tactics
import Derived.Lib.ConvBytes
import Derived.Laws.Slices
import Derived.WalkKit
import Derived.KernelRfl
import Derived.RowKit3
import Derived.Deep.LoopGhost
import Derived.Deep.QuietTactic
import Derived.BigQuiet
import Derived.WideLaws
import Derived.Deep.DeepCutAuto
import Derived.Deep.CutBlock
import Derived.Deep.RegionHeld3
import Derived.Laws.Rows
import Derived.Lib.AppendStr
import Derived.ArgAppend
import Derived.Laws.IdiomCopy
import Derived.OrdersHeld
import Derived.Laws.BitsLemmas
import Derived.RowKit
import Derived.Deep.RegionWith
import Derived.Maps.OwnOps
import Derived.Maps.StringElems
import Derived.Maps.Views
import Derived.Test.YtaaldnaefdodkaaGreatDoorBase
import Derived.Test.YtaaldnaefdodkaaGreatDoorBig
import Derived.Test.YtaaldnaefdodkaaGreatDoorMirRepl
import Derived.Test.YtaaldnaefdodkaaGreatDoorShelf
import Derived.Test.YtaaldnaefdodkaaGreatDoorWWords
import Derived.Test.YtaaldnaefdodkaaGreatDoorWLast
import Derived.Test.YtaaldnaefdodkaaGreatDoorWTab
import Derived.Test.YtaaldnaefdodkaaGreatDoorWFour
import Derived.Test.YtaaldnaefdodkaaGreatDoorWQPut
import Derived.Test.YtaaldnaefdodkaaGreatDoorWApart
import Derived.Test.YtaaldnaefdodkaaGreatDoorWArr
import Derived.Test.YtaaldnaefdodkaaGreatDoorWZeros
import Derived.Test.YtaaldnaefdodkaaGreatDoorWFoot
import Derived.Test.YtaaldnaefdodkaaGreatDoorWKept
import Derived.Test.YtaaldnaefdodkaaGreatDoorWShare
import Derived.Test.YtaaldnaefdodkaaGreatDoorWN
import Derived.Test.YtaaldnaefdodkaaGreatDoorWFootNe
import Derived.Test.YtaaldnaefdodkaaGreatDoorWAt
import Derived.Test.YtaaldnaefdodkaaGreatDoorWEqStruct
import Derived.Test.YtaaldnaefdodkaaGreatDoorWRepsOne
import Derived.Test.YtaaldnaefdodkaaGreatDoorWInv
import Derived.Test.YtaaldnaefdodkaaGreatDoorWInvWords
import Derived.Test.YtaaldnaefdodkaaGreatDoorWGuard
import Derived.Test.YtaaldnaefdodkaaGreatDoorWNEv
import Derived.Test.YtaaldnaefdodkaaGreatDoorWMore
namespace Go.Proofs.YtaaldnaefdodkaaGreatDoor.PA
open Go.RowKit Go.Proofs.YtaaldnaefdodkaaGreatDoorW.PrintWords Go.Proofs.YtaaldnaefdodkaaGreatDoorW.PrintLast Go.Proofs.YtaaldnaefdodkaaGreatDoorW.PrintMore
attribute [local go_sem] max2_int min2_int max_two min_two max_three min_three max_four min_four   -- for this text's walks alone
set_option linter.unusedVariables false
set_option linter.unusedSimpArgs false



def errW : Option Int → Value
  | none => .nilIface
  | some c => .iface 0 (.int .i64 c)
theorem errW_none : errW none = .nilIface := rfl
theorem errW_some (c : Int) : errW (some c) = .iface 0 (.int .i64 c) := rfl

theorem info3 : (Tryz.prog.info? 3).map (fun i => (i.zero, i.size, i.bytes)) = some (some (.int .i64 0), 1, 8) := by kernel_rfl
theorem info9 : (Tryz.prog.info? 9).map (fun i => (i.zero, i.size, i.bytes)) = some (some (.string ⟨#[]⟩), 1, 16) := by kernel_rfl
theorem info63 : (Tryz.prog.info? 63).map (fun i => (i.zero, i.size, i.bytes)) = some (some (.agg #[(.int .i64 0), (.int .i64 0), (.int .i64 0), (.int .i64 0), (.int .i64 0), (.bool false)]), 6, 48) := by kernel_rfl
theorem info71 : (Tryz.prog.info? 71).map (fun i => (i.zero, i.size, i.bytes)) = some (some (.agg #[(.string ⟨#[]⟩), (.int .i64 0), (.int .i64 0), (.int .i64 0), (.int .i64 0), (.int .i64 0), (.bool false), (.int .i64 0), (.int .i64 0), (.int .i64 0), (.int .i64 0), (.bool false), (.string ⟨#[]⟩), (.int .i64 0), (.bool false), (.int .i64 0), (.int .i64 0), (.int .i64 0), (.int .i64 0), (.int .i64 0), (.bool false), (.int .i64 0), (.int .i64 0), (.int .i64 0), (.int .i64 0), (.bool false), (.string ⟨#[]⟩), (.int .i64 0), (.int .i64 0), (.int .i64 0)]), 30, 264) := by kernel_rfl
-- the values' own types
/-! #### struct type 51 -/
structure S51 where
  f0 : Int
  f1 : Int
  f2 : Int
  f3 : Int
  f4 : Int
  f5 : Bool
def z51 : S51 := ⟨(0 : Int), (0 : Int), (0 : Int), (0 : Int), (0 : Int), false⟩
def k51 : Kd S51 := Kd.iso (Kd.pair (Kd.int .i64) (Kd.pair (Kd.int .i64) (Kd.pair (Kd.int .i64) (Kd.pair (Kd.int .i64) (Kd.pair (Kd.int .i64) Kd.bool))))) (fun x : S51 => (x.f0, x.f1, x.f2, x.f3, x.f4, x.f5))
theorem k51_open {w : World} {x : S51} {cs : List Value} (h : k51.K w x cs) : cs = [.int .i64 x.f0, .int .i64 x.f1, .int .i64 x.f2, .int .i64 x.f3, .int .i64 x.f4, .bool x.f5] := by
  obtain ⟨_, _, rfl, rfl, ⟨_, _, rfl, rfl, ⟨_, _, rfl, rfl, ⟨_, _, rfl, rfl, ⟨_, _, rfl, rfl, rfl⟩⟩⟩⟩⟩ := h
  exact rfl
theorem k51_openM {w : World} {base : Nat} {ok : Nat → Prop} {x : S51} {cs : List Value} (h : k51.M w base ok x cs) : cs = [.int .i64 x.f0, .int .i64 x.f1, .int .i64 x.f2, .int .i64 x.f3, .int .i64 x.f4, .bool x.f5] := by
  obtain ⟨_, _, rfl, rfl, ⟨_, _, rfl, rfl, ⟨_, _, rfl, rfl, ⟨_, _, rfl, rfl, ⟨_, _, rfl, rfl, rfl⟩⟩⟩⟩⟩ := h
  exact rfl
theorem k51_mk (w : World) (x : S51)  : k51.K w x [.int .i64 x.f0, .int .i64 x.f1, .int .i64 x.f2, .int .i64 x.f3, .int .i64 x.f4, .bool x.f5] := ⟨[.int .i64 x.f0], [.int .i64 x.f1, .int .i64 x.f2, .int .i64 x.f3, .int .i64 x.f4, .bool x.f5], rfl, rfl, ⟨[.int .i64 x.f1], [.int .i64 x.f2, .int .i64 x.f3, .int .i64 x.f4, .bool x.f5], rfl, rfl, ⟨[.int .i64 x.f2], [.int .i64 x.f3, .int .i64 x.f4, .bool x.f5], rfl, rfl, ⟨[.int .i64 x.f3], [.int .i64 x.f4, .bool x.f5], rfl, rfl, ⟨[.int .i64 x.f4], [.bool x.f5], rfl, rfl, rfl⟩⟩⟩⟩⟩
theorem k51_mkM (w : World) (base : Nat) (ok : Nat → Prop) (x : S51)  : k51.M w base ok x [.int .i64 x.f0, .int .i64 x.f1, .int .i64 x.f2, .int .i64 x.f3, .int .i64 x.f4, .bool x.f5] := ⟨[.int .i64 x.f0], [.int .i64 x.f1, .int .i64 x.f2, .int .i64 x.f3, .int .i64 x.f4, .bool x.f5], rfl, rfl, ⟨[.int .i64 x.f1], [.int .i64 x.f2, .int .i64 x.f3, .int .i64 x.f4, .bool x.f5], rfl, rfl, ⟨[.int .i64 x.f2], [.int .i64 x.f3, .int .i64 x.f4, .bool x.f5], rfl, rfl, ⟨[.int .i64 x.f3], [.int .i64 x.f4, .bool x.f5], rfl, rfl, ⟨[.int .i64 x.f4], [.bool x.f5], rfl, rfl, rfl⟩⟩⟩⟩⟩
def rd_T51 (xs : List S51) (i : Int) : S51 := xs.getD i.toNat z51
theorem at_T51 {w : World} {A : Option Addr} {n : Nat} {xs : List S51} (h : Kd.C k51 w A n xs) (i : Int) (h0 : 0 ≤ i) (h1 : i < n) : ∃ ad , A = some ad ∧ w.cell? (ad.add (i.toNat * 6)) = some (.int .i64 (rd_T51 xs i).f0) ∧ w.cell? ⟨(ad.add (i.toNat * 6)).block, (ad.add (i.toNat * 6)).off + 1, none⟩ = some (.int .i64 (rd_T51 xs i).f1) ∧ w.cell? ⟨(ad.add (i.toNat * 6)).block, (ad.add (i.toNat * 6)).off + 2, none⟩ = some (.int .i64 (rd_T51 xs i).f2) ∧ w.cell? ⟨(ad.add (i.toNat * 6)).block, (ad.add (i.toNat * 6)).off + 3, none⟩ = some (.int .i64 (rd_T51 xs i).f3) ∧ w.cell? ⟨(ad.add (i.toNat * 6)).block, (ad.add (i.toNat * 6)).off + 4, none⟩ = some (.int .i64 (rd_T51 xs i).f4) ∧ w.cell? ⟨(ad.add (i.toNat * 6)).block, (ad.add (i.toNat * 6)).off + 5, none⟩ = some (.bool (rd_T51 xs i).f5) := by
  obtain ⟨ad, c, e, _, hK, hc0⟩ := Kd.C_get h z51 i h0 h1
  have hc : ∀ j u, c[j]? = some u → w.cell? (ad.add (i.toNat * 6 + j)) = some u := hc0
  obtain rfl := k51_open hK
  exact ⟨ad, e, hc 0 _ rfl, by rw [← add_field _ _ 1 (by omega)]; exact hc 1 _ rfl, by rw [← add_field _ _ 2 (by omega)]; exact hc 2 _ rfl, by rw [← add_field _ _ 3 (by omega)]; exact hc 3 _ rfl, by rw [← add_field _ _ 4 (by omega)]; exact hc 4 _ rfl, by rw [← add_field _ _ 5 (by omega)]; exact hc 5 _ rfl⟩

/-! #### struct type 53 -/
structure S53 where
  f0 : Int
  f1 : Int
def z53 : S53 := ⟨(0 : Int), (0 : Int)⟩
def k53 : Kd S53 := Kd.iso (Kd.pair (Kd.int .i64) (Kd.int .i64)) (fun x : S53 => (x.f0, x.f1))
theorem k53_open {w : World} {x : S53} {cs : List Value} (h : k53.K w x cs) : cs = [.int .i64 x.f0, .int .i64 x.f1] := by
  obtain ⟨_, _, rfl, rfl, rfl⟩ := h
  exact rfl
theorem k53_openM {w : World} {base : Nat} {ok : Nat → Prop} {x : S53} {cs : List Value} (h : k53.M w base ok x cs) : cs = [.int .i64 x.f0, .int .i64 x.f1] := by
  obtain ⟨_, _, rfl, rfl, rfl⟩ := h
  exact rfl
theorem k53_mk (w : World) (x : S53)  : k53.K w x [.int .i64 x.f0, .int .i64 x.f1] := ⟨[.int .i64 x.f0], [.int .i64 x.f1], rfl, rfl, rfl⟩
theorem k53_mkM (w : World) (base : Nat) (ok : Nat → Prop) (x : S53)  : k53.M w base ok x [.int .i64 x.f0, .int .i64 x.f1] := ⟨[.int .i64 x.f0], [.int .i64 x.f1], rfl, rfl, rfl⟩
def rd_T53 (xs : List S53) (i : Int) : S53 := xs.getD i.toNat z53
theorem at_T53 {w : World} {A : Option Addr} {n : Nat} {xs : List S53} (h : Kd.C k53 w A n xs) (i : Int) (h0 : 0 ≤ i) (h1 : i < n) : ∃ ad , A = some ad ∧ w.cell? (ad.add (i.toNat * 2)) = some (.int .i64 (rd_T53 xs i).f0) ∧ w.cell? ⟨(ad.add (i.toNat * 2)).block, (ad.add (i.toNat * 2)).off + 1, none⟩ = some (.int .i64 (rd_T53 xs i).f1) := by
  obtain ⟨ad, c, e, _, hK, hc0⟩ := Kd.C_get h z53 i h0 h1
  have hc : ∀ j u, c[j]? = some u → w.cell? (ad.add (i.toNat * 2 + j)) = some u := hc0
  obtain rfl := k53_open hK
  exact ⟨ad, e, hc 0 _ rfl, by rw [← add_field _ _ 1 (by omega)]; exact hc 1 _ rfl⟩

/-! #### struct type 55 -/
structure S55 where
  f0 : Int
  f1 : Int
  f2 : Bool
def z55 : S55 := ⟨(0 : Int), (0 : Int), false⟩
def k55 : Kd S55 := Kd.iso (Kd.pair (Kd.int .i64) (Kd.pair (Kd.int .i64) Kd.bool)) (fun x : S55 => (x.f0, x.f1, x.f2))
theorem k55_open {w : World} {x : S55} {cs : List Value} (h : k55.K w x cs) : cs = [.int .i64 x.f0, .int .i64 x.f1, .bool x.f2] := by
  obtain ⟨_, _, rfl, rfl, ⟨_, _, rfl, rfl, rfl⟩⟩ := h
  exact rfl
theorem k55_openM {w : World} {base : Nat} {ok : Nat → Prop} {x : S55} {cs : List Value} (h : k55.M w base ok x cs) : cs = [.int .i64 x.f0, .int .i64 x.f1, .bool x.f2] := by
  obtain ⟨_, _, rfl, rfl, ⟨_, _, rfl, rfl, rfl⟩⟩ := h
  exact rfl
theorem k55_mk (w : World) (x : S55)  : k55.K w x [.int .i64 x.f0, .int .i64 x.f1, .bool x.f2] := ⟨[.int .i64 x.f0], [.int .i64 x.f1, .bool x.f2], rfl, rfl, ⟨[.int .i64 x.f1], [.bool x.f2], rfl, rfl, rfl⟩⟩
theorem k55_mkM (w : World) (base : Nat) (ok : Nat → Prop) (x : S55)  : k55.M w base ok x [.int .i64 x.f0, .int .i64 x.f1, .bool x.f2] := ⟨[.int .i64 x.f0], [.int .i64 x.f1, .bool x.f2], rfl, rfl, ⟨[.int .i64 x.f1], [.bool x.f2], rfl, rfl, rfl⟩⟩
def rd_T55 (xs : List S55) (i : Int) : S55 := xs.getD i.toNat z55
theorem at_T55 {w : World} {A : Option Addr} {n : Nat} {xs : List S55} (h : Kd.C k55 w A n xs) (i : Int) (h0 : 0 ≤ i) (h1 : i < n) : ∃ ad , A = some ad ∧ w.cell? (ad.add (i.toNat * 3)) = some (.int .i64 (rd_T55 xs i).f0) ∧ w.cell? ⟨(ad.add (i.toNat * 3)).block, (ad.add (i.toNat * 3)).off + 1, none⟩ = some (.int .i64 (rd_T55 xs i).f1) ∧ w.cell? ⟨(ad.add (i.toNat * 3)).block, (ad.add (i.toNat * 3)).off + 2, none⟩ = some (.bool (rd_T55 xs i).f2) := by
  obtain ⟨ad, c, e, _, hK, hc0⟩ := Kd.C_get h z55 i h0 h1
  have hc : ∀ j u, c[j]? = some u → w.cell? (ad.add (i.toNat * 3 + j)) = some u := hc0
  obtain rfl := k55_open hK
  exact ⟨ad, e, hc 0 _ rfl, by rw [← add_field _ _ 1 (by omega)]; exact hc 1 _ rfl, by rw [← add_field _ _ 2 (by omega)]; exact hc 2 _ rfl⟩

/-! #### struct type 56 -/
structure S56 where
  f0 : ByteArray
  f1 : Int
def z56 : S56 := ⟨(⟨#[]⟩ : ByteArray), (0 : Int)⟩
def k56 : Kd S56 := Kd.iso (Kd.pair Kd.string (Kd.int .i64)) (fun x : S56 => (x.f0, x.f1))
theorem k56_open {w : World} {x : S56} {cs : List Value} (h : k56.K w x cs) : cs = [.string x.f0, .int .i64 x.f1] := by
  obtain ⟨_, _, rfl, rfl, rfl⟩ := h
  exact rfl
theorem k56_openM {w : World} {base : Nat} {ok : Nat → Prop} {x : S56} {cs : List Value} (h : k56.M w base ok x cs) : cs = [.string x.f0, .int .i64 x.f1] := by
  obtain ⟨_, _, rfl, rfl, rfl⟩ := h
  exact rfl
theorem k56_mk (w : World) (x : S56)  : k56.K w x [.string x.f0, .int .i64 x.f1] := ⟨[.string x.f0], [.int .i64 x.f1], rfl, rfl, rfl⟩
theorem k56_mkM (w : World) (base : Nat) (ok : Nat → Prop) (x : S56)  : k56.M w base ok x [.string x.f0, .int .i64 x.f1] := ⟨[.string x.f0], [.int .i64 x.f1], rfl, rfl, rfl⟩
def rd_T56 (xs : List S56) (i : Int) : S56 := xs.getD i.toNat z56
theorem at_T56 {w : World} {A : Option Addr} {n : Nat} {xs : List S56} (h : Kd.C k56 w A n xs) (i : Int) (h0 : 0 ≤ i) (h1 : i < n) : ∃ ad , A = some ad ∧ w.cell? (ad.add (i.toNat * 2)) = some (.string (rd_T56 xs i).f0) ∧ w.cell? ⟨(ad.add (i.toNat * 2)).block, (ad.add (i.toNat * 2)).off + 1, none⟩ = some (.int .i64 (rd_T56 xs i).f1) := by
  obtain ⟨ad, c, e, _, hK, hc0⟩ := Kd.C_get h z56 i h0 h1
  have hc : ∀ j u, c[j]? = some u → w.cell? (ad.add (i.toNat * 2 + j)) = some u := hc0
  obtain rfl := k56_open hK
  exact ⟨ad, e, hc 0 _ rfl, by rw [← add_field _ _ 1 (by omega)]; exact hc 1 _ rfl⟩

/-! #### struct type 58 -/
structure S58 where
  f0 : S51
  f1 : S53
  f2 : S55
  f3 : S56
def z58 : S58 := ⟨z51, z53, z55, z56⟩
def k58 : Kd S58 := Kd.iso (Kd.pair k51 (Kd.pair k53 (Kd.pair k55 k56))) (fun x : S58 => (x.f0, x.f1, x.f2, x.f3))
theorem k58_open {w : World} {x : S58} {cs : List Value} (h : k58.K w x cs) : cs = [.int .i64 x.f0.f0, .int .i64 x.f0.f1, .int .i64 x.f0.f2, .int .i64 x.f0.f3, .int .i64 x.f0.f4, .bool x.f0.f5, .int .i64 x.f1.f0, .int .i64 x.f1.f1, .int .i64 x.f2.f0, .int .i64 x.f2.f1, .bool x.f2.f2, .string x.f3.f0, .int .i64 x.f3.f1] := by
  obtain ⟨_, _, rfl, s0, ⟨_, _, rfl, s6, ⟨_, _, rfl, s8, s11⟩⟩⟩ := h
  obtain rfl := k51_open s0
  obtain rfl := k53_open s6
  obtain rfl := k55_open s8
  obtain rfl := k56_open s11
  exact rfl
theorem k58_openM {w : World} {base : Nat} {ok : Nat → Prop} {x : S58} {cs : List Value} (h : k58.M w base ok x cs) : cs = [.int .i64 x.f0.f0, .int .i64 x.f0.f1, .int .i64 x.f0.f2, .int .i64 x.f0.f3, .int .i64 x.f0.f4, .bool x.f0.f5, .int .i64 x.f1.f0, .int .i64 x.f1.f1, .int .i64 x.f2.f0, .int .i64 x.f2.f1, .bool x.f2.f2, .string x.f3.f0, .int .i64 x.f3.f1] := by
  obtain ⟨_, _, rfl, s0, ⟨_, _, rfl, s6, ⟨_, _, rfl, s8, s11⟩⟩⟩ := h
  obtain rfl := k51_openM s0
  obtain rfl := k53_openM s6
  obtain rfl := k55_openM s8
  obtain rfl := k56_openM s11
  exact rfl
theorem k58_mk (w : World) (x : S58)  : k58.K w x [.int .i64 x.f0.f0, .int .i64 x.f0.f1, .int .i64 x.f0.f2, .int .i64 x.f0.f3, .int .i64 x.f0.f4, .bool x.f0.f5, .int .i64 x.f1.f0, .int .i64 x.f1.f1, .int .i64 x.f2.f0, .int .i64 x.f2.f1, .bool x.f2.f2, .string x.f3.f0, .int .i64 x.f3.f1] := ⟨[.int .i64 x.f0.f0, .int .i64 x.f0.f1, .int .i64 x.f0.f2, .int .i64 x.f0.f3, .int .i64 x.f0.f4, .bool x.f0.f5], [.int .i64 x.f1.f0, .int .i64 x.f1.f1, .int .i64 x.f2.f0, .int .i64 x.f2.f1, .bool x.f2.f2, .string x.f3.f0, .int .i64 x.f3.f1], rfl, (k51_mk w x.f0 ), ⟨[.int .i64 x.f1.f0, .int .i64 x.f1.f1], [.int .i64 x.f2.f0, .int .i64 x.f2.f1, .bool x.f2.f2, .string x.f3.f0, .int .i64 x.f3.f1], rfl, (k53_mk w x.f1 ), ⟨[.int .i64 x.f2.f0, .int .i64 x.f2.f1, .bool x.f2.f2], [.string x.f3.f0, .int .i64 x.f3.f1], rfl, (k55_mk w x.f2 ), (k56_mk w x.f3 )⟩⟩⟩
theorem k58_mkM (w : World) (base : Nat) (ok : Nat → Prop) (x : S58)  : k58.M w base ok x [.int .i64 x.f0.f0, .int .i64 x.f0.f1, .int .i64 x.f0.f2, .int .i64 x.f0.f3, .int .i64 x.f0.f4, .bool x.f0.f5, .int .i64 x.f1.f0, .int .i64 x.f1.f1, .int .i64 x.f2.f0, .int .i64 x.f2.f1, .bool x.f2.f2, .string x.f3.f0, .int .i64 x.f3.f1] := ⟨[.int .i64 x.f0.f0, .int .i64 x.f0.f1, .int .i64 x.f0.f2, .int .i64 x.f0.f3, .int .i64 x.f0.f4, .bool x.f0.f5], [.int .i64 x.f1.f0, .int .i64 x.f1.f1, .int .i64 x.f2.f0, .int .i64 x.f2.f1, .bool x.f2.f2, .string x.f3.f0, .int .i64 x.f3.f1], rfl, (k51_mkM w base ok x.f0 ), ⟨[.int .i64 x.f1.f0, .int .i64 x.f1.f1], [.int .i64 x.f2.f0, .int .i64 x.f2.f1, .bool x.f2.f2, .string x.f3.f0, .int .i64 x.f3.f1], rfl, (k53_mkM w base ok x.f1 ), ⟨[.int .i64 x.f2.f0, .int .i64 x.f2.f1, .bool x.f2.f2], [.string x.f3.f0, .int .i64 x.f3.f1], rfl, (k55_mkM w base ok x.f2 ), (k56_mkM w base ok x.f3 )⟩⟩⟩
def rd_T58 (xs : List S58) (i : Int) : S58 := xs.getD i.toNat z58
theorem at_T58 {w : World} {A : Option Addr} {n : Nat} {xs : List S58} (h : Kd.C k58 w A n xs) (i : Int) (h0 : 0 ≤ i) (h1 : i < n) : ∃ ad , A = some ad ∧ w.cell? (ad.add (i.toNat * 13)) = some (.int .i64 (rd_T58 xs i).f0.f0) ∧ w.cell? ⟨(ad.add (i.toNat * 13)).block, (ad.add (i.toNat * 13)).off + 1, none⟩ = some (.int .i64 (rd_T58 xs i).f0.f1) ∧ w.cell? ⟨(ad.add (i.toNat * 13)).block, (ad.add (i.toNat * 13)).off + 2, none⟩ = some (.int .i64 (rd_T58 xs i).f0.f2) ∧ w.cell? ⟨(ad.add (i.toNat * 13)).block, (ad.add (i.toNat * 13)).off + 3, none⟩ = some (.int .i64 (rd_T58 xs i).f0.f3) ∧ w.cell? ⟨(ad.add (i.toNat * 13)).block, (ad.add (i.toNat * 13)).off + 4, none⟩ = some (.int .i64 (rd_T58 xs i).f0.f4) ∧ w.cell? ⟨(ad.add (i.toNat * 13)).block, (ad.add (i.toNat * 13)).off + 5, none⟩ = some (.bool (rd_T58 xs i).f0.f5) ∧ w.cell? ⟨(ad.add (i.toNat * 13)).block, (ad.add (i.toNat * 13)).off + 6, none⟩ = some (.int .i64 (rd_T58 xs i).f1.f0) ∧ w.cell? ⟨(ad.add (i.toNat * 13)).block, (ad.add (i.toNat * 13)).off + 7, none⟩ = some (.int .i64 (rd_T58 xs i).f1.f1) ∧ w.cell? ⟨(ad.add (i.toNat * 13)).block, (ad.add (i.toNat * 13)).off + 8, none⟩ = some (.int .i64 (rd_T58 xs i).f2.f0) ∧ w.cell? ⟨(ad.add (i.toNat * 13)).block, (ad.add (i.toNat * 13)).off + 9, none⟩ = some (.int .i64 (rd_T58 xs i).f2.f1) ∧ w.cell? ⟨(ad.add (i.toNat * 13)).block, (ad.add (i.toNat * 13)).off + 10, none⟩ = some (.bool (rd_T58 xs i).f2.f2) ∧ w.cell? ⟨(ad.add (i.toNat * 13)).block, (ad.add (i.toNat * 13)).off + 11, none⟩ = some (.string (rd_T58 xs i).f3.f0) ∧ w.cell? ⟨(ad.add (i.toNat * 13)).block, (ad.add (i.toNat * 13)).off + 12, none⟩ = some (.int .i64 (rd_T58 xs i).f3.f1) := by
  obtain ⟨ad, c, e, _, hK, hc0⟩ := Kd.C_get h z58 i h0 h1
  have hc : ∀ j u, c[j]? = some u → w.cell? (ad.add (i.toNat * 13 + j)) = some u := hc0
  obtain rfl := k58_open hK
  exact ⟨ad, e, hc 0 _ rfl, by rw [← add_field _ _ 1 (by omega)]; exact hc 1 _ rfl, by rw [← add_field _ _ 2 (by omega)]; exact hc 2 _ rfl, by rw [← add_field _ _ 3 (by omega)]; exact hc 3 _ rfl, by rw [← add_field _ _ 4 (by omega)]; exact hc 4 _ rfl, by rw [← add_field _ _ 5 (by omega)]; exact hc 5 _ rfl, by rw [← add_field _ _ 6 (by omega)]; exact hc 6 _ rfl, by rw [← add_field _ _ 7 (by omega)]; exact hc 7 _ rfl, by rw [← add_field _ _ 8 (by omega)]; exact hc 8 _ rfl, by rw [← add_field _ _ 9 (by omega)]; exact hc 9 _ rfl, by rw [← add_field _ _ 10 (by omega)]; exact hc 10 _ rfl, by rw [← add_field _ _ 11 (by omega)]; exact hc 11 _ rfl, by rw [← add_field _ _ 12 (by omega)]; exact hc 12 _ rfl⟩

/-! #### struct type 60 -/
structure S60 where
  f0 : S58
  f1 : Bool
  f2 : S58
def z60 : S60 := ⟨z58, false, z58⟩
def k60 : Kd S60 := Kd.iso (Kd.pair k58 (Kd.pair Kd.bool k58)) (fun x : S60 => (x.f0, x.f1, x.f2))
theorem k60_open {w : World} {x : S60} {cs : List Value} (h : k60.K w x cs) : cs = [.int .i64 x.f0.f0.f0, .int .i64 x.f0.f0.f1, .int .i64 x.f0.f0.f2, .int .i64 x.f0.f0.f3, .int .i64 x.f0.f0.f4, .bool x.f0.f0.f5, .int .i64 x.f0.f1.f0, .int .i64 x.f0.f1.f1, .int .i64 x.f0.f2.f0, .int .i64 x.f0.f2.f1, .bool x.f0.f2.f2, .string x.f0.f3.f0, .int .i64 x.f0.f3.f1, .bool x.f1, .int .i64 x.f2.f0.f0, .int .i64 x.f2.f0.f1, .int .i64 x.f2.f0.f2, .int .i64 x.f2.f0.f3, .int .i64 x.f2.f0.f4, .bool x.f2.f0.f5, .int .i64 x.f2.f1.f0, .int .i64 x.f2.f1.f1, .int .i64 x.f2.f2.f0, .int .i64 x.f2.f2.f1, .bool x.f2.f2.f2, .string x.f2.f3.f0, .int .i64 x.f2.f3.f1] := by
  obtain ⟨_, _, rfl, s0, ⟨_, _, rfl, rfl, s14⟩⟩ := h
  obtain rfl := k58_open s0
  obtain rfl := k58_open s14
  exact rfl
theorem k60_openM {w : World} {base : Nat} {ok : Nat → Prop} {x : S60} {cs : List Value} (h : k60.M w base ok x cs) : cs = [.int .i64 x.f0.f0.f0, .int .i64 x.f0.f0.f1, .int .i64 x.f0.f0.f2, .int .i64 x.f0.f0.f3, .int .i64 x.f0.f0.f4, .bool x.f0.f0.f5, .int .i64 x.f0.f1.f0, .int .i64 x.f0.f1.f1, .int .i64 x.f0.f2.f0, .int .i64 x.f0.f2.f1, .bool x.f0.f2.f2, .string x.f0.f3.f0, .int .i64 x.f0.f3.f1, .bool x.f1, .int .i64 x.f2.f0.f0, .int .i64 x.f2.f0.f1, .int .i64 x.f2.f0.f2, .int .i64 x.f2.f0.f3, .int .i64 x.f2.f0.f4, .bool x.f2.f0.f5, .int .i64 x.f2.f1.f0, .int .i64 x.f2.f1.f1, .int .i64 x.f2.f2.f0, .int .i64 x.f2.f2.f1, .bool x.f2.f2.f2, .string x.f2.f3.f0, .int .i64 x.f2.f3.f1] := by
  obtain ⟨_, _, rfl, s0, ⟨_, _, rfl, rfl, s14⟩⟩ := h
  obtain rfl := k58_openM s0
  obtain rfl := k58_openM s14
  exact rfl
theorem k60_mk (w : World) (x : S60)  : k60.K w x [.int .i64 x.f0.f0.f0, .int .i64 x.f0.f0.f1, .int .i64 x.f0.f0.f2, .int .i64 x.f0.f0.f3, .int .i64 x.f0.f0.f4, .bool x.f0.f0.f5, .int .i64 x.f0.f1.f0, .int .i64 x.f0.f1.f1, .int .i64 x.f0.f2.f0, .int .i64 x.f0.f2.f1, .bool x.f0.f2.f2, .string x.f0.f3.f0, .int .i64 x.f0.f3.f1, .bool x.f1, .int .i64 x.f2.f0.f0, .int .i64 x.f2.f0.f1, .int .i64 x.f2.f0.f2, .int .i64 x.f2.f0.f3, .int .i64 x.f2.f0.f4, .bool x.f2.f0.f5, .int .i64 x.f2.f1.f0, .int .i64 x.f2.f1.f1, .int .i64 x.f2.f2.f0, .int .i64 x.f2.f2.f1, .bool x.f2.f2.f2, .string x.f2.f3.f0, .int .i64 x.f2.f3.f1] := ⟨[.int .i64 x.f0.f0.f0, .int .i64 x.f0.f0.f1, .int .i64 x.f0.f0.f2, .int .i64 x.f0.f0.f3, .int .i64 x.f0.f0.f4, .bool x.f0.f0.f5, .int .i64 x.f0.f1.f0, .int .i64 x.f0.f1.f1, .int .i64 x.f0.f2.f0, .int .i64 x.f0.f2.f1, .bool x.f0.f2.f2, .string x.f0.f3.f0, .int .i64 x.f0.f3.f1], [.bool x.f1, .int .i64 x.f2.f0.f0, .int .i64 x.f2.f0.f1, .int .i64 x.f2.f0.f2, .int .i64 x.f2.f0.f3, .int .i64 x.f2.f0.f4, .bool x.f2.f0.f5, .int .i64 x.f2.f1.f0, .int .i64 x.f2.f1.f1, .int .i64 x.f2.f2.f0, .int .i64 x.f2.f2.f1, .bool x.f2.f2.f2, .string x.f2.f3.f0, .int .i64 x.f2.f3.f1], rfl, (k58_mk w x.f0 ), ⟨[.bool x.f1], [.int .i64 x.f2.f0.f0, .int .i64 x.f2.f0.f1, .int .i64 x.f2.f0.f2, .int .i64 x.f2.f0.f3, .int .i64 x.f2.f0.f4, .bool x.f2.f0.f5, .int .i64 x.f2.f1.f0, .int .i64 x.f2.f1.f1, .int .i64 x.f2.f2.f0, .int .i64 x.f2.f2.f1, .bool x.f2.f2.f2, .string x.f2.f3.f0, .int .i64 x.f2.f3.f1], rfl, rfl, (k58_mk w x.f2 )⟩⟩
theorem k60_mkM (w : World) (base : Nat) (ok : Nat → Prop) (x : S60)  : k60.M w base ok x [.int .i64 x.f0.f0.f0, .int .i64 x.f0.f0.f1, .int .i64 x.f0.f0.f2, .int .i64 x.f0.f0.f3, .int .i64 x.f0.f0.f4, .bool x.f0.f0.f5, .int .i64 x.f0.f1.f0, .int .i64 x.f0.f1.f1, .int .i64 x.f0.f2.f0, .int .i64 x.f0.f2.f1, .bool x.f0.f2.f2, .string x.f0.f3.f0, .int .i64 x.f0.f3.f1, .bool x.f1, .int .i64 x.f2.f0.f0, .int .i64 x.f2.f0.f1, .int .i64 x.f2.f0.f2, .int .i64 x.f2.f0.f3, .int .i64 x.f2.f0.f4, .bool x.f2.f0.f5, .int .i64 x.f2.f1.f0, .int .i64 x.f2.f1.f1, .int .i64 x.f2.f2.f0, .int .i64 x.f2.f2.f1, .bool x.f2.f2.f2, .string x.f2.f3.f0, .int .i64 x.f2.f3.f1] := ⟨[.int .i64 x.f0.f0.f0, .int .i64 x.f0.f0.f1, .int .i64 x.f0.f0.f2, .int .i64 x.f0.f0.f3, .int .i64 x.f0.f0.f4, .bool x.f0.f0.f5, .int .i64 x.f0.f1.f0, .int .i64 x.f0.f1.f1, .int .i64 x.f0.f2.f0, .int .i64 x.f0.f2.f1, .bool x.f0.f2.f2, .string x.f0.f3.f0, .int .i64 x.f0.f3.f1], [.bool x.f1, .int .i64 x.f2.f0.f0, .int .i64 x.f2.f0.f1, .int .i64 x.f2.f0.f2, .int .i64 x.f2.f0.f3, .int .i64 x.f2.f0.f4, .bool x.f2.f0.f5, .int .i64 x.f2.f1.f0, .int .i64 x.f2.f1.f1, .int .i64 x.f2.f2.f0, .int .i64 x.f2.f2.f1, .bool x.f2.f2.f2, .string x.f2.f3.f0, .int .i64 x.f2.f3.f1], rfl, (k58_mkM w base ok x.f0 ), ⟨[.bool x.f1], [.int .i64 x.f2.f0.f0, .int .i64 x.f2.f0.f1, .int .i64 x.f2.f0.f2, .int .i64 x.f2.f0.f3, .int .i64 x.f2.f0.f4, .bool x.f2.f0.f5, .int .i64 x.f2.f1.f0, .int .i64 x.f2.f1.f1, .int .i64 x.f2.f2.f0, .int .i64 x.f2.f2.f1, .bool x.f2.f2.f2, .string x.f2.f3.f0, .int .i64 x.f2.f3.f1], rfl, rfl, (k58_mkM w base ok x.f2 )⟩⟩
def rd_T60 (xs : List S60) (i : Int) : S60 := xs.getD i.toNat z60
theorem at_T60 {w : World} {A : Option Addr} {n : Nat} {xs : List S60} (h : Kd.C k60 w A n xs) (i : Int) (h0 : 0 ≤ i) (h1 : i < n) : ∃ ad , A = some ad ∧ w.cell? (ad.add (i.toNat * 27)) = some (.int .i64 (rd_T60 xs i).f0.f0.f0) ∧ w.cell? ⟨(ad.add (i.toNat * 27)).block, (ad.add (i.toNat * 27)).off + 1, none⟩ = some (.int .i64 (rd_T60 xs i).f0.f0.f1) ∧ w.cell? ⟨(ad.add (i.toNat * 27)).block, (ad.add (i.toNat * 27)).off + 2, none⟩ = some (.int .i64 (rd_T60 xs i).f0.f0.f2) ∧ w.cell? ⟨(ad.add (i.toNat * 27)).block, (ad.add (i.toNat * 27)).off + 3, none⟩ = some (.int .i64 (rd_T60 xs i).f0.f0.f3) ∧ w.cell? ⟨(ad.add (i.toNat * 27)).block, (ad.add (i.toNat * 27)).off + 4, none⟩ = some (.int .i64 (rd_T60 xs i).f0.f0.f4) ∧ w.cell? ⟨(ad.add (i.toNat * 27)).block, (ad.add (i.toNat * 27)).off + 5, none⟩ = some (.bool (rd_T60 xs i).f0.f0.f5) ∧ w.cell? ⟨(ad.add (i.toNat * 27)).block, (ad.add (i.toNat * 27)).off + 6, none⟩ = some (.int .i64 (rd_T60 xs i).f0.f1.f0) ∧ w.cell? ⟨(ad.add (i.toNat * 27)).block, (ad.add (i.toNat * 27)).off + 7, none⟩ = some (.int .i64 (rd_T60 xs i).f0.f1.f1) ∧ w.cell? ⟨(ad.add (i.toNat * 27)).block, (ad.add (i.toNat * 27)).off + 8, none⟩ = some (.int .i64 (rd_T60 xs i).f0.f2.f0) ∧ w.cell? ⟨(ad.add (i.toNat * 27)).block, (ad.add (i.toNat * 27)).off + 9, none⟩ = some (.int .i64 (rd_T60 xs i).f0.f2.f1) ∧ w.cell? ⟨(ad.add (i.toNat * 27)).block, (ad.add (i.toNat * 27)).off + 10, none⟩ = some (.bool (rd_T60 xs i).f0.f2.f2) ∧ w.cell? ⟨(ad.add (i.toNat * 27)).block, (ad.add (i.toNat * 27)).off + 11, none⟩ = some (.string (rd_T60 xs i).f0.f3.f0) ∧ w.cell? ⟨(ad.add (i.toNat * 27)).block, (ad.add (i.toNat * 27)).off + 12, none⟩ = some (.int .i64 (rd_T60 xs i).f0.f3.f1) ∧ w.cell? ⟨(ad.add (i.toNat * 27)).block, (ad.add (i.toNat * 27)).off + 13, none⟩ = some (.bool (rd_T60 xs i).f1) ∧ w.cell? ⟨(ad.add (i.toNat * 27)).block, (ad.add (i.toNat * 27)).off + 14, none⟩ = some (.int .i64 (rd_T60 xs i).f2.f0.f0) ∧ w.cell? ⟨(ad.add (i.toNat * 27)).block, (ad.add (i.toNat * 27)).off + 15, none⟩ = some (.int .i64 (rd_T60 xs i).f2.f0.f1) ∧ w.cell? ⟨(ad.add (i.toNat * 27)).block, (ad.add (i.toNat * 27)).off + 16, none⟩ = some (.int .i64 (rd_T60 xs i).f2.f0.f2) ∧ w.cell? ⟨(ad.add (i.toNat * 27)).block, (ad.add (i.toNat * 27)).off + 17, none⟩ = some (.int .i64 (rd_T60 xs i).f2.f0.f3) ∧ w.cell? ⟨(ad.add (i.toNat * 27)).block, (ad.add (i.toNat * 27)).off + 18, none⟩ = some (.int .i64 (rd_T60 xs i).f2.f0.f4) ∧ w.cell? ⟨(ad.add (i.toNat * 27)).block, (ad.add (i.toNat * 27)).off + 19, none⟩ = some (.bool (rd_T60 xs i).f2.f0.f5) ∧ w.cell? ⟨(ad.add (i.toNat * 27)).block, (ad.add (i.toNat * 27)).off + 20, none⟩ = some (.int .i64 (rd_T60 xs i).f2.f1.f0) ∧ w.cell? ⟨(ad.add (i.toNat * 27)).block, (ad.add (i.toNat * 27)).off + 21, none⟩ = some (.int .i64 (rd_T60 xs i).f2.f1.f1) ∧ w.cell? ⟨(ad.add (i.toNat * 27)).block, (ad.add (i.toNat * 27)).off + 22, none⟩ = some (.int .i64 (rd_T60 xs i).f2.f2.f0) ∧ w.cell? ⟨(ad.add (i.toNat * 27)).block, (ad.add (i.toNat * 27)).off + 23, none⟩ = some (.int .i64 (rd_T60 xs i).f2.f2.f1) ∧ w.cell? ⟨(ad.add (i.toNat * 27)).block, (ad.add (i.toNat * 27)).off + 24, none⟩ = some (.bool (rd_T60 xs i).f2.f2.f2) ∧ w.cell? ⟨(ad.add (i.toNat * 27)).block, (ad.add (i.toNat * 27)).off + 25, none⟩ = some (.string (rd_T60 xs i).f2.f3.f0) ∧ w.cell? ⟨(ad.add (i.toNat * 27)).block, (ad.add (i.toNat * 27)).off + 26, none⟩ = some (.int .i64 (rd_T60 xs i).f2.f3.f1) := by
  obtain ⟨ad, c, e, _, hK, hc0⟩ := Kd.C_get h z60 i h0 h1
  have hc : ∀ j u, c[j]? = some u → w.cell? (ad.add (i.toNat * 27 + j)) = some u := hc0
  obtain rfl := k60_open hK
  exact ⟨ad, e, hc 0 _ rfl, by rw [← add_field _ _ 1 (by omega)]; exact hc 1 _ rfl, by rw [← add_field _ _ 2 (by omega)]; exact hc 2 _ rfl, by rw [← add_field _ _ 3 (by omega)]; exact hc 3 _ rfl, by rw [← add_field _ _ 4 (by omega)]; exact hc 4 _ rfl, by rw [← add_field _ _ 5 (by omega)]; exact hc 5 _ rfl, by rw [← add_field _ _ 6 (by omega)]; exact hc 6 _ rfl, by rw [← add_field _ _ 7 (by omega)]; exact hc 7 _ rfl, by rw [← add_field _ _ 8 (by omega)]; exact hc 8 _ rfl, by rw [← add_field _ _ 9 (by omega)]; exact hc 9 _ rfl, by rw [← add_field _ _ 10 (by omega)]; exact hc 10 _ rfl, by rw [← add_field _ _ 11 (by omega)]; exact hc 11 _ rfl, by rw [← add_field _ _ 12 (by omega)]; exact hc 12 _ rfl, by rw [← add_field _ _ 13 (by omega)]; exact hc 13 _ rfl, by rw [← add_field _ _ 14 (by omega)]; exact hc 14 _ rfl, by rw [← add_field _ _ 15 (by omega)]; exact hc 15 _ rfl, by rw [← add_field _ _ 16 (by omega)]; exact hc 16 _ rfl, by rw [← add_field _ _ 17 (by omega)]; exact hc 17 _ rfl, by rw [← add_field _ _ 18 (by omega)]; exact hc 18 _ rfl, by rw [← add_field _ _ 19 (by omega)]; exact hc 19 _ rfl, by rw [← add_field _ _ 20 (by omega)]; exact hc 20 _ rfl, by rw [← add_field _ _ 21 (by omega)]; exact hc 21 _ rfl, by rw [← add_field _ _ 22 (by omega)]; exact hc 22 _ rfl, by rw [← add_field _ _ 23 (by omega)]; exact hc 23 _ rfl, by rw [← add_field _ _ 24 (by omega)]; exact hc 24 _ rfl, by rw [← add_field _ _ 25 (by omega)]; exact hc 25 _ rfl, by rw [← add_field _ _ 26 (by omega)]; exact hc 26 _ rfl⟩

/-! #### struct type 62 -/
structure S62 where
  f0 : ByteArray
  f1 : S60
  f2 : Int
  f3 : Int
def z62 : S62 := ⟨(⟨#[]⟩ : ByteArray), z60, (0 : Int), (0 : Int)⟩
def k62 : Kd S62 := Kd.iso (Kd.pair Kd.string (Kd.pair k60 (Kd.pair (Kd.int .i64) (Kd.int .i64)))) (fun x : S62 => (x.f0, x.f1, x.f2, x.f3))
theorem k62_open {w : World} {x : S62} {cs : List Value} (h : k62.K w x cs) : cs = [.string x.f0, .int .i64 x.f1.f0.f0.f0, .int .i64 x.f1.f0.f0.f1, .int .i64 x.f1.f0.f0.f2, .int .i64 x.f1.f0.f0.f3, .int .i64 x.f1.f0.f0.f4, .bool x.f1.f0.f0.f5, .int .i64 x.f1.f0.f1.f0, .int .i64 x.f1.f0.f1.f1, .int .i64 x.f1.f0.f2.f0, .int .i64 x.f1.f0.f2.f1, .bool x.f1.f0.f2.f2, .string x.f1.f0.f3.f0, .int .i64 x.f1.f0.f3.f1, .bool x.f1.f1, .int .i64 x.f1.f2.f0.f0, .int .i64 x.f1.f2.f0.f1, .int .i64 x.f1.f2.f0.f2, .int .i64 x.f1.f2.f0.f3, .int .i64 x.f1.f2.f0.f4, .bool x.f1.f2.f0.f5, .int .i64 x.f1.f2.f1.f0, .int .i64 x.f1.f2.f1.f1, .int .i64 x.f1.f2.f2.f0, .int .i64 x.f1.f2.f2.f1, .bool x.f1.f2.f2.f2, .string x.f1.f2.f3.f0, .int .i64 x.f1.f2.f3.f1, .int .i64 x.f2, .int .i64 x.f3] := by
  obtain ⟨_, _, rfl, rfl, ⟨_, _, rfl, s1, ⟨_, _, rfl, rfl, rfl⟩⟩⟩ := h
  obtain rfl := k60_open s1
  exact rfl
theorem k62_openM {w : World} {base : Nat} {ok : Nat → Prop} {x : S62} {cs : List Value} (h : k62.M w base ok x cs) : cs = [.string x.f0, .int .i64 x.f1.f0.f0.f0, .int .i64 x.f1.f0.f0.f1, .int .i64 x.f1.f0.f0.f2, .int .i64 x.f1.f0.f0.f3, .int .i64 x.f1.f0.f0.f4, .bool x.f1.f0.f0.f5, .int .i64 x.f1.f0.f1.f0, .int .i64 x.f1.f0.f1.f1, .int .i64 x.f1.f0.f2.f0, .int .i64 x.f1.f0.f2.f1, .bool x.f1.f0.f2.f2, .string x.f1.f0.f3.f0, .int .i64 x.f1.f0.f3.f1, .bool x.f1.f1, .int .i64 x.f1.f2.f0.f0, .int .i64 x.f1.f2.f0.f1, .int .i64 x.f1.f2.f0.f2, .int .i64 x.f1.f2.f0.f3, .int .i64 x.f1.f2.f0.f4, .bool x.f1.f2.f0.f5, .int .i64 x.f1.f2.f1.f0, .int .i64 x.f1.f2.f1.f1, .int .i64 x.f1.f2.f2.f0, .int .i64 x.f1.f2.f2.f1, .bool x.f1.f2.f2.f2, .string x.f1.f2.f3.f0, .int .i64 x.f1.f2.f3.f1, .int .i64 x.f2, .int .i64 x.f3] := by
  obtain ⟨_, _, rfl, rfl, ⟨_, _, rfl, s1, ⟨_, _, rfl, rfl, rfl⟩⟩⟩ := h
  obtain rfl := k60_openM s1
  exact rfl
theorem k62_mk (w : World) (x : S62)  : k62.K w x [.string x.f0, .int .i64 x.f1.f0.f0.f0, .int .i64 x.f1.f0.f0.f1, .int .i64 x.f1.f0.f0.f2, .int .i64 x.f1.f0.f0.f3, .int .i64 x.f1.f0.f0.f4, .bool x.f1.f0.f0.f5, .int .i64 x.f1.f0.f1.f0, .int .i64 x.f1.f0.f1.f1, .int .i64 x.f1.f0.f2.f0, .int .i64 x.f1.f0.f2.f1, .bool x.f1.f0.f2.f2, .string x.f1.f0.f3.f0, .int .i64 x.f1.f0.f3.f1, .bool x.f1.f1, .int .i64 x.f1.f2.f0.f0, .int .i64 x.f1.f2.f0.f1, .int .i64 x.f1.f2.f0.f2, .int .i64 x.f1.f2.f0.f3, .int .i64 x.f1.f2.f0.f4, .bool x.f1.f2.f0.f5, .int .i64 x.f1.f2.f1.f0, .int .i64 x.f1.f2.f1.f1, .int .i64 x.f1.f2.f2.f0, .int .i64 x.f1.f2.f2.f1, .bool x.f1.f2.f2.f2, .string x.f1.f2.f3.f0, .int .i64 x.f1.f2.f3.f1, .int .i64 x.f2, .int .i64 x.f3] := ⟨[.string x.f0], [.int .i64 x.f1.f0.f0.f0, .int .i64 x.f1.f0.f0.f1, .int .i64 x.f1.f0.f0.f2, .int .i64 x.f1.f0.f0.f3, .int .i64 x.f1.f0.f0.f4, .bool x.f1.f0.f0.f5, .int .i64 x.f1.f0.f1.f0, .int .i64 x.f1.f0.f1.f1, .int .i64 x.f1.f0.f2.f0, .int .i64 x.f1.f0.f2.f1, .bool x.f1.f0.f2.f2, .string x.f1.f0.f3.f0, .int .i64 x.f1.f0.f3.f1, .bool x.f1.f1, .int .i64 x.f1.f2.f0.f0, .int .i64 x.f1.f2.f0.f1, .int .i64 x.f1.f2.f0.f2, .int .i64 x.f1.f2.f0.f3, .int .i64 x.f1.f2.f0.f4, .bool x.f1.f2.f0.f5, .int .i64 x.f1.f2.f1.f0, .int .i64 x.f1.f2.f1.f1, .int .i64 x.f1.f2.f2.f0, .int .i64 x.f1.f2.f2.f1, .bool x.f1.f2.f2.f2, .string x.f1.f2.f3.f0, .int .i64 x.f1.f2.f3.f1, .int .i64 x.f2, .int .i64 x.f3], rfl, rfl, ⟨[.int .i64 x.f1.f0.f0.f0, .int .i64 x.f1.f0.f0.f1, .int .i64 x.f1.f0.f0.f2, .int .i64 x.f1.f0.f0.f3, .int .i64 x.f1.f0.f0.f4, .bool x.f1.f0.f0.f5, .int .i64 x.f1.f0.f1.f0, .int .i64 x.f1.f0.f1.f1, .int .i64 x.f1.f0.f2.f0, .int .i64 x.f1.f0.f2.f1, .bool x.f1.f0.f2.f2, .string x.f1.f0.f3.f0, .int .i64 x.f1.f0.f3.f1, .bool x.f1.f1, .int .i64 x.f1.f2.f0.f0, .int .i64 x.f1.f2.f0.f1, .int .i64 x.f1.f2.f0.f2, .int .i64 x.f1.f2.f0.f3, .int .i64 x.f1.f2.f0.f4, .bool x.f1.f2.f0.f5, .int .i64 x.f1.f2.f1.f0, .int .i64 x.f1.f2.f1.f1, .int .i64 x.f1.f2.f2.f0, .int .i64 x.f1.f2.f2.f1, .bool x.f1.f2.f2.f2, .string x.f1.f2.f3.f0, .int .i64 x.f1.f2.f3.f1], [.int .i64 x.f2, .int .i64 x.f3], rfl, (k60_mk w x.f1 ), ⟨[.int .i64 x.f2], [.int .i64 x.f3], rfl, rfl, rfl⟩⟩⟩
theorem k62_mkM (w : World) (base : Nat) (ok : Nat → Prop) (x : S62)  : k62.M w base ok x [.string x.f0, .int .i64 x.f1.f0.f0.f0, .int .i64 x.f1.f0.f0.f1, .int .i64 x.f1.f0.f0.f2, .int .i64 x.f1.f0.f0.f3, .int .i64 x.f1.f0.f0.f4, .bool x.f1.f0.f0.f5, .int .i64 x.f1.f0.f1.f0, .int .i64 x.f1.f0.f1.f1, .int .i64 x.f1.f0.f2.f0, .int .i64 x.f1.f0.f2.f1, .bool x.f1.f0.f2.f2, .string x.f1.f0.f3.f0, .int .i64 x.f1.f0.f3.f1, .bool x.f1.f1, .int .i64 x.f1.f2.f0.f0, .int .i64 x.f1.f2.f0.f1, .int .i64 x.f1.f2.f0.f2, .int .i64 x.f1.f2.f0.f3, .int .i64 x.f1.f2.f0.f4, .bool x.f1.f2.f0.f5, .int .i64 x.f1.f2.f1.f0, .int .i64 x.f1.f2.f1.f1, .int .i64 x.f1.f2.f2.f0, .int .i64 x.f1.f2.f2.f1, .bool x.f1.f2.f2.f2, .string x.f1.f2.f3.f0, .int .i64 x.f1.f2.f3.f1, .int .i64 x.f2, .int .i64 x.f3] := ⟨[.string x.f0], [.int .i64 x.f1.f0.f0.f0, .int .i64 x.f1.f0.f0.f1, .int .i64 x.f1.f0.f0.f2, .int .i64 x.f1.f0.f0.f3, .int .i64 x.f1.f0.f0.f4, .bool x.f1.f0.f0.f5, .int .i64 x.f1.f0.f1.f0, .int .i64 x.f1.f0.f1.f1, .int .i64 x.f1.f0.f2.f0, .int .i64 x.f1.f0.f2.f1, .bool x.f1.f0.f2.f2, .string x.f1.f0.f3.f0, .int .i64 x.f1.f0.f3.f1, .bool x.f1.f1, .int .i64 x.f1.f2.f0.f0, .int .i64 x.f1.f2.f0.f1, .int .i64 x.f1.f2.f0.f2, .int .i64 x.f1.f2.f0.f3, .int .i64 x.f1.f2.f0.f4, .bool x.f1.f2.f0.f5, .int .i64 x.f1.f2.f1.f0, .int .i64 x.f1.f2.f1.f1, .int .i64 x.f1.f2.f2.f0, .int .i64 x.f1.f2.f2.f1, .bool x.f1.f2.f2.f2, .string x.f1.f2.f3.f0, .int .i64 x.f1.f2.f3.f1, .int .i64 x.f2, .int .i64 x.f3], rfl, rfl, ⟨[.int .i64 x.f1.f0.f0.f0, .int .i64 x.f1.f0.f0.f1, .int .i64 x.f1.f0.f0.f2, .int .i64 x.f1.f0.f0.f3, .int .i64 x.f1.f0.f0.f4, .bool x.f1.f0.f0.f5, .int .i64 x.f1.f0.f1.f0, .int .i64 x.f1.f0.f1.f1, .int .i64 x.f1.f0.f2.f0, .int .i64 x.f1.f0.f2.f1, .bool x.f1.f0.f2.f2, .string x.f1.f0.f3.f0, .int .i64 x.f1.f0.f3.f1, .bool x.f1.f1, .int .i64 x.f1.f2.f0.f0, .int .i64 x.f1.f2.f0.f1, .int .i64 x.f1.f2.f0.f2, .int .i64 x.f1.f2.f0.f3, .int .i64 x.f1.f2.f0.f4, .bool x.f1.f2.f0.f5, .int .i64 x.f1.f2.f1.f0, .int .i64 x.f1.f2.f1.f1, .int .i64 x.f1.f2.f2.f0, .int .i64 x.f1.f2.f2.f1, .bool x.f1.f2.f2.f2, .string x.f1.f2.f3.f0, .int .i64 x.f1.f2.f3.f1], [.int .i64 x.f2, .int .i64 x.f3], rfl, (k60_mkM w base ok x.f1 ), ⟨[.int .i64 x.f2], [.int .i64 x.f3], rfl, rfl, rfl⟩⟩⟩
def rd_T62 (xs : List S62) (i : Int) : S62 := xs.getD i.toNat z62
theorem at_T62 {w : World} {A : Option Addr} {n : Nat} {xs : List S62} (h : Kd.C k62 w A n xs) (i : Int) (h0 : 0 ≤ i) (h1 : i < n) : ∃ ad , A = some ad ∧ w.cell? (ad.add (i.toNat * 30)) = some (.string (rd_T62 xs i).f0) ∧ w.cell? ⟨(ad.add (i.toNat * 30)).block, (ad.add (i.toNat * 30)).off + 1, none⟩ = some (.int .i64 (rd_T62 xs i).f1.f0.f0.f0) ∧ w.cell? ⟨(ad.add (i.toNat * 30)).block, (ad.add (i.toNat * 30)).off + 2, none⟩ = some (.int .i64 (rd_T62 xs i).f1.f0.f0.f1) ∧ w.cell? ⟨(ad.add (i.toNat * 30)).block, (ad.add (i.toNat * 30)).off + 3, none⟩ = some (.int .i64 (rd_T62 xs i).f1.f0.f0.f2) ∧ w.cell? ⟨(ad.add (i.toNat * 30)).block, (ad.add (i.toNat * 30)).off + 4, none⟩ = some (.int .i64 (rd_T62 xs i).f1.f0.f0.f3) ∧ w.cell? ⟨(ad.add (i.toNat * 30)).block, (ad.add (i.toNat * 30)).off + 5, none⟩ = some (.int .i64 (rd_T62 xs i).f1.f0.f0.f4) ∧ w.cell? ⟨(ad.add (i.toNat * 30)).block, (ad.add (i.toNat * 30)).off + 6, none⟩ = some (.bool (rd_T62 xs i).f1.f0.f0.f5) ∧ w.cell? ⟨(ad.add (i.toNat * 30)).block, (ad.add (i.toNat * 30)).off + 7, none⟩ = some (.int .i64 (rd_T62 xs i).f1.f0.f1.f0) ∧ w.cell? ⟨(ad.add (i.toNat * 30)).block, (ad.add (i.toNat * 30)).off + 8, none⟩ = some (.int .i64 (rd_T62 xs i).f1.f0.f1.f1) ∧ w.cell? ⟨(ad.add (i.toNat * 30)).block, (ad.add (i.toNat * 30)).off + 9, none⟩ = some (.int .i64 (rd_T62 xs i).f1.f0.f2.f0) ∧ w.cell? ⟨(ad.add (i.toNat * 30)).block, (ad.add (i.toNat * 30)).off + 10, none⟩ = some (.int .i64 (rd_T62 xs i).f1.f0.f2.f1) ∧ w.cell? ⟨(ad.add (i.toNat * 30)).block, (ad.add (i.toNat * 30)).off + 11, none⟩ = some (.bool (rd_T62 xs i).f1.f0.f2.f2) ∧ w.cell? ⟨(ad.add (i.toNat * 30)).block, (ad.add (i.toNat * 30)).off + 12, none⟩ = some (.string (rd_T62 xs i).f1.f0.f3.f0) ∧ w.cell? ⟨(ad.add (i.toNat * 30)).block, (ad.add (i.toNat * 30)).off + 13, none⟩ = some (.int .i64 (rd_T62 xs i).f1.f0.f3.f1) ∧ w.cell? ⟨(ad.add (i.toNat * 30)).block, (ad.add (i.toNat * 30)).off + 14, none⟩ = some (.bool (rd_T62 xs i).f1.f1) ∧ w.cell? ⟨(ad.add (i.toNat * 30)).block, (ad.add (i.toNat * 30)).off + 15, none⟩ = some (.int .i64 (rd_T62 xs i).f1.f2.f0.f0) ∧ w.cell? ⟨(ad.add (i.toNat * 30)).block, (ad.add (i.toNat * 30)).off + 16, none⟩ = some (.int .i64 (rd_T62 xs i).f1.f2.f0.f1) ∧ w.cell? ⟨(ad.add (i.toNat * 30)).block, (ad.add (i.toNat * 30)).off + 17, none⟩ = some (.int .i64 (rd_T62 xs i).f1.f2.f0.f2) ∧ w.cell? ⟨(ad.add (i.toNat * 30)).block, (ad.add (i.toNat * 30)).off + 18, none⟩ = some (.int .i64 (rd_T62 xs i).f1.f2.f0.f3) ∧ w.cell? ⟨(ad.add (i.toNat * 30)).block, (ad.add (i.toNat * 30)).off + 19, none⟩ = some (.int .i64 (rd_T62 xs i).f1.f2.f0.f4) ∧ w.cell? ⟨(ad.add (i.toNat * 30)).block, (ad.add (i.toNat * 30)).off + 20, none⟩ = some (.bool (rd_T62 xs i).f1.f2.f0.f5) ∧ w.cell? ⟨(ad.add (i.toNat * 30)).block, (ad.add (i.toNat * 30)).off + 21, none⟩ = some (.int .i64 (rd_T62 xs i).f1.f2.f1.f0) ∧ w.cell? ⟨(ad.add (i.toNat * 30)).block, (ad.add (i.toNat * 30)).off + 22, none⟩ = some (.int .i64 (rd_T62 xs i).f1.f2.f1.f1) ∧ w.cell? ⟨(ad.add (i.toNat * 30)).block, (ad.add (i.toNat * 30)).off + 23, none⟩ = some (.int .i64 (rd_T62 xs i).f1.f2.f2.f0) ∧ w.cell? ⟨(ad.add (i.toNat * 30)).block, (ad.add (i.toNat * 30)).off + 24, none⟩ = some (.int .i64 (rd_T62 xs i).f1.f2.f2.f1) ∧ w.cell? ⟨(ad.add (i.toNat * 30)).block, (ad.add (i.toNat * 30)).off + 25, none⟩ = some (.bool (rd_T62 xs i).f1.f2.f2.f2) ∧ w.cell? ⟨(ad.add (i.toNat * 30)).block, (ad.add (i.toNat * 30)).off + 26, none⟩ = some (.string (rd_T62 xs i).f1.f2.f3.f0) ∧ w.cell? ⟨(ad.add (i.toNat * 30)).block, (ad.add (i.toNat * 30)).off + 27, none⟩ = some (.int .i64 (rd_T62 xs i).f1.f2.f3.f1) ∧ w.cell? ⟨(ad.add (i.toNat * 30)).block, (ad.add (i.toNat * 30)).off + 28, none⟩ = some (.int .i64 (rd_T62 xs i).f2) ∧ w.cell? ⟨(ad.add (i.toNat * 30)).block, (ad.add (i.toNat * 30)).off + 29, none⟩ = some (.int .i64 (rd_T62 xs i).f3) := by
  obtain ⟨ad, c, e, _, hK, hc0⟩ := Kd.C_get h z62 i h0 h1
  have hc : ∀ j u, c[j]? = some u → w.cell? (ad.add (i.toNat * 30 + j)) = some u := hc0
  obtain rfl := k62_open hK
  exact ⟨ad, e, hc 0 _ rfl, by rw [← add_field _ _ 1 (by omega)]; exact hc 1 _ rfl, by rw [← add_field _ _ 2 (by omega)]; exact hc 2 _ rfl, by rw [← add_field _ _ 3 (by omega)]; exact hc 3 _ rfl, by rw [← add_field _ _ 4 (by omega)]; exact hc 4 _ rfl, by rw [← add_field _ _ 5 (by omega)]; exact hc 5 _ rfl, by rw [← add_field _ _ 6 (by omega)]; exact hc 6 _ rfl, by rw [← add_field _ _ 7 (by omega)]; exact hc 7 _ rfl, by rw [← add_field _ _ 8 (by omega)]; exact hc 8 _ rfl, by rw [← add_field _ _ 9 (by omega)]; exact hc 9 _ rfl, by rw [← add_field _ _ 10 (by omega)]; exact hc 10 _ rfl, by rw [← add_field _ _ 11 (by omega)]; exact hc 11 _ rfl, by rw [← add_field _ _ 12 (by omega)]; exact hc 12 _ rfl, by rw [← add_field _ _ 13 (by omega)]; exact hc 13 _ rfl, by rw [← add_field _ _ 14 (by omega)]; exact hc 14 _ rfl, by rw [← add_field _ _ 15 (by omega)]; exact hc 15 _ rfl, by rw [← add_field _ _ 16 (by omega)]; exact hc 16 _ rfl, by rw [← add_field _ _ 17 (by omega)]; exact hc 17 _ rfl, by rw [← add_field _ _ 18 (by omega)]; exact hc 18 _ rfl, by rw [← add_field _ _ 19 (by omega)]; exact hc 19 _ rfl, by rw [← add_field _ _ 20 (by omega)]; exact hc 20 _ rfl, by rw [← add_field _ _ 21 (by omega)]; exact hc 21 _ rfl, by rw [← add_field _ _ 22 (by omega)]; exact hc 22 _ rfl, by rw [← add_field _ _ 23 (by omega)]; exact hc 23 _ rfl, by rw [← add_field _ _ 24 (by omega)]; exact hc 24 _ rfl, by rw [← add_field _ _ 25 (by omega)]; exact hc 25 _ rfl, by rw [← add_field _ _ 26 (by omega)]; exact hc 26 _ rfl, by rw [← add_field _ _ 27 (by omega)]; exact hc 27 _ rfl, by rw [← add_field _ _ 28 (by omega)]; exact hc 28 _ rfl, by rw [← add_field _ _ 29 (by omega)]; exact hc 29 _ rfl⟩

/-! #### struct type 63 -/
structure S63 where
  f0 : Int
  f1 : Int
  f2 : Int
  f3 : Int
  f4 : Int
  f5 : Bool
def z63 : S63 := ⟨(0 : Int), (0 : Int), (0 : Int), (0 : Int), (0 : Int), false⟩
def k63 : Kd S63 := Kd.iso (Kd.pair (Kd.int .i64) (Kd.pair (Kd.int .i64) (Kd.pair (Kd.int .i64) (Kd.pair (Kd.int .i64) (Kd.pair (Kd.int .i64) Kd.bool))))) (fun x : S63 => (x.f0, x.f1, x.f2, x.f3, x.f4, x.f5))
theorem k63_open {w : World} {x : S63} {cs : List Value} (h : k63.K w x cs) : cs = [.int .i64 x.f0, .int .i64 x.f1, .int .i64 x.f2, .int .i64 x.f3, .int .i64 x.f4, .bool x.f5] := by
  obtain ⟨_, _, rfl, rfl, ⟨_, _, rfl, rfl, ⟨_, _, rfl, rfl, ⟨_, _, rfl, rfl, ⟨_, _, rfl, rfl, rfl⟩⟩⟩⟩⟩ := h
  exact rfl
theorem k63_openM {w : World} {base : Nat} {ok : Nat → Prop} {x : S63} {cs : List Value} (h : k63.M w base ok x cs) : cs = [.int .i64 x.f0, .int .i64 x.f1, .int .i64 x.f2, .int .i64 x.f3, .int .i64 x.f4, .bool x.f5] := by
  obtain ⟨_, _, rfl, rfl, ⟨_, _, rfl, rfl, ⟨_, _, rfl, rfl, ⟨_, _, rfl, rfl, ⟨_, _, rfl, rfl, rfl⟩⟩⟩⟩⟩ := h
  exact rfl
theorem k63_mk (w : World) (x : S63)  : k63.K w x [.int .i64 x.f0, .int .i64 x.f1, .int .i64 x.f2, .int .i64 x.f3, .int .i64 x.f4, .bool x.f5] := ⟨[.int .i64 x.f0], [.int .i64 x.f1, .int .i64 x.f2, .int .i64 x.f3, .int .i64 x.f4, .bool x.f5], rfl, rfl, ⟨[.int .i64 x.f1], [.int .i64 x.f2, .int .i64 x.f3, .int .i64 x.f4, .bool x.f5], rfl, rfl, ⟨[.int .i64 x.f2], [.int .i64 x.f3, .int .i64 x.f4, .bool x.f5], rfl, rfl, ⟨[.int .i64 x.f3], [.int .i64 x.f4, .bool x.f5], rfl, rfl, ⟨[.int .i64 x.f4], [.bool x.f5], rfl, rfl, rfl⟩⟩⟩⟩⟩
theorem k63_mkM (w : World) (base : Nat) (ok : Nat → Prop) (x : S63)  : k63.M w base ok x [.int .i64 x.f0, .int .i64 x.f1, .int .i64 x.f2, .int .i64 x.f3, .int .i64 x.f4, .bool x.f5] := ⟨[.int .i64 x.f0], [.int .i64 x.f1, .int .i64 x.f2, .int .i64 x.f3, .int .i64 x.f4, .bool x.f5], rfl, rfl, ⟨[.int .i64 x.f1], [.int .i64 x.f2, .int .i64 x.f3, .int .i64 x.f4, .bool x.f5], rfl, rfl, ⟨[.int .i64 x.f2], [.int .i64 x.f3, .int .i64 x.f4, .bool x.f5], rfl, rfl, ⟨[.int .i64 x.f3], [.int .i64 x.f4, .bool x.f5], rfl, rfl, ⟨[.int .i64 x.f4], [.bool x.f5], rfl, rfl, rfl⟩⟩⟩⟩⟩
def rd_T63 (xs : List S63) (i : Int) : S63 := xs.getD i.toNat z63
theorem at_T63 {w : World} {A : Option Addr} {n : Nat} {xs : List S63} (h : Kd.C k63 w A n xs) (i : Int) (h0 : 0 ≤ i) (h1 : i < n) : ∃ ad , A = some ad ∧ w.cell? (ad.add (i.toNat * 6)) = some (.int .i64 (rd_T63 xs i).f0) ∧ w.cell? ⟨(ad.add (i.toNat * 6)).block, (ad.add (i.toNat * 6)).off + 1, none⟩ = some (.int .i64 (rd_T63 xs i).f1) ∧ w.cell? ⟨(ad.add (i.toNat * 6)).block, (ad.add (i.toNat * 6)).off + 2, none⟩ = some (.int .i64 (rd_T63 xs i).f2) ∧ w.cell? ⟨(ad.add (i.toNat * 6)).block, (ad.add (i.toNat * 6)).off + 3, none⟩ = some (.int .i64 (rd_T63 xs i).f3) ∧ w.cell? ⟨(ad.add (i.toNat * 6)).block, (ad.add (i.toNat * 6)).off + 4, none⟩ = some (.int .i64 (rd_T63 xs i).f4) ∧ w.cell? ⟨(ad.add (i.toNat * 6)).block, (ad.add (i.toNat * 6)).off + 5, none⟩ = some (.bool (rd_T63 xs i).f5) := by
  obtain ⟨ad, c, e, _, hK, hc0⟩ := Kd.C_get h z63 i h0 h1
  have hc : ∀ j u, c[j]? = some u → w.cell? (ad.add (i.toNat * 6 + j)) = some u := hc0
  obtain rfl := k63_open hK
  exact ⟨ad, e, hc 0 _ rfl, by rw [← add_field _ _ 1 (by omega)]; exact hc 1 _ rfl, by rw [← add_field _ _ 2 (by omega)]; exact hc 2 _ rfl, by rw [← add_field _ _ 3 (by omega)]; exact hc 3 _ rfl, by rw [← add_field _ _ 4 (by omega)]; exact hc 4 _ rfl, by rw [← add_field _ _ 5 (by omega)]; exact hc 5 _ rfl⟩

/-! #### struct type 64 -/
structure S64 where
  f0 : Int
  f1 : Int
def z64 : S64 := ⟨(0 : Int), (0 : Int)⟩
def k64 : Kd S64 := Kd.iso (Kd.pair (Kd.int .i64) (Kd.int .i64)) (fun x : S64 => (x.f0, x.f1))
theorem k64_open {w : World} {x : S64} {cs : List Value} (h : k64.K w x cs) : cs = [.int .i64 x.f0, .int .i64 x.f1] := by
  obtain ⟨_, _, rfl, rfl, rfl⟩ := h
  exact rfl
theorem k64_openM {w : World} {base : Nat} {ok : Nat → Prop} {x : S64} {cs : List Value} (h : k64.M w base ok x cs) : cs = [.int .i64 x.f0, .int .i64 x.f1] := by
  obtain ⟨_, _, rfl, rfl, rfl⟩ := h
  exact rfl
theorem k64_mk (w : World) (x : S64)  : k64.K w x [.int .i64 x.f0, .int .i64 x.f1] := ⟨[.int .i64 x.f0], [.int .i64 x.f1], rfl, rfl, rfl⟩
theorem k64_mkM (w : World) (base : Nat) (ok : Nat → Prop) (x : S64)  : k64.M w base ok x [.int .i64 x.f0, .int .i64 x.f1] := ⟨[.int .i64 x.f0], [.int .i64 x.f1], rfl, rfl, rfl⟩
def rd_T64 (xs : List S64) (i : Int) : S64 := xs.getD i.toNat z64
theorem at_T64 {w : World} {A : Option Addr} {n : Nat} {xs : List S64} (h : Kd.C k64 w A n xs) (i : Int) (h0 : 0 ≤ i) (h1 : i < n) : ∃ ad , A = some ad ∧ w.cell? (ad.add (i.toNat * 2)) = some (.int .i64 (rd_T64 xs i).f0) ∧ w.cell? ⟨(ad.add (i.toNat * 2)).block, (ad.add (i.toNat * 2)).off + 1, none⟩ = some (.int .i64 (rd_T64 xs i).f1) := by
  obtain ⟨ad, c, e, _, hK, hc0⟩ := Kd.C_get h z64 i h0 h1
  have hc : ∀ j u, c[j]? = some u → w.cell? (ad.add (i.toNat * 2 + j)) = some u := hc0
  obtain rfl := k64_open hK
  exact ⟨ad, e, hc 0 _ rfl, by rw [← add_field _ _ 1 (by omega)]; exact hc 1 _ rfl⟩

/-! #### struct type 65 -/
structure S65 where
  f0 : Int
  f1 : Int
  f2 : Bool
def z65 : S65 := ⟨(0 : Int), (0 : Int), false⟩
def k65 : Kd S65 := Kd.iso (Kd.pair (Kd.int .i64) (Kd.pair (Kd.int .i64) Kd.bool)) (fun x : S65 => (x.f0, x.f1, x.f2))
theorem k65_open {w : World} {x : S65} {cs : List Value} (h : k65.K w x cs) : cs = [.int .i64 x.f0, .int .i64 x.f1, .bool x.f2] := by
  obtain ⟨_, _, rfl, rfl, ⟨_, _, rfl, rfl, rfl⟩⟩ := h
  exact rfl
theorem k65_openM {w : World} {base : Nat} {ok : Nat → Prop} {x : S65} {cs : List Value} (h : k65.M w base ok x cs) : cs = [.int .i64 x.f0, .int .i64 x.f1, .bool x.f2] := by
  obtain ⟨_, _, rfl, rfl, ⟨_, _, rfl, rfl, rfl⟩⟩ := h
  exact rfl
theorem k65_mk (w : World) (x : S65)  : k65.K w x [.int .i64 x.f0, .int .i64 x.f1, .bool x.f2] := ⟨[.int .i64 x.f0], [.int .i64 x.f1, .bool x.f2], rfl, rfl, ⟨[.int .i64 x.f1], [.bool x.f2], rfl, rfl, rfl⟩⟩
theorem k65_mkM (w : World) (base : Nat) (ok : Nat → Prop) (x : S65)  : k65.M w base ok x [.int .i64 x.f0, .int .i64 x.f1, .bool x.f2] := ⟨[.int .i64 x.f0], [.int .i64 x.f1, .bool x.f2], rfl, rfl, ⟨[.int .i64 x.f1], [.bool x.f2], rfl, rfl, rfl⟩⟩
def rd_T65 (xs : List S65) (i : Int) : S65 := xs.getD i.toNat z65
theorem at_T65 {w : World} {A : Option Addr} {n : Nat} {xs : List S65} (h : Kd.C k65 w A n xs) (i : Int) (h0 : 0 ≤ i) (h1 : i < n) : ∃ ad , A = some ad ∧ w.cell? (ad.add (i.toNat * 3)) = some (.int .i64 (rd_T65 xs i).f0) ∧ w.cell? ⟨(ad.add (i.toNat * 3)).block, (ad.add (i.toNat * 3)).off + 1, none⟩ = some (.int .i64 (rd_T65 xs i).f1) ∧ w.cell? ⟨(ad.add (i.toNat * 3)).block, (ad.add (i.toNat * 3)).off + 2, none⟩ = some (.bool (rd_T65 xs i).f2) := by
  obtain ⟨ad, c, e, _, hK, hc0⟩ := Kd.C_get h z65 i h0 h1
  have hc : ∀ j u, c[j]? = some u → w.cell? (ad.add (i.toNat * 3 + j)) = some u := hc0
  obtain rfl := k65_open hK
  exact ⟨ad, e, hc 0 _ rfl, by rw [← add_field _ _ 1 (by omega)]; exact hc 1 _ rfl, by rw [← add_field _ _ 2 (by omega)]; exact hc 2 _ rfl⟩

/-! #### struct type 31 -/
structure S31 where
  f0 : ByteArray
  f1 : Int
def z31 : S31 := ⟨(⟨#[]⟩ : ByteArray), (0 : Int)⟩
def k31 : Kd S31 := Kd.iso (Kd.pair Kd.string (Kd.int .i64)) (fun x : S31 => (x.f0, x.f1))
theorem k31_open {w : World} {x : S31} {cs : List Value} (h : k31.K w x cs) : cs = [.string x.f0, .int .i64 x.f1] := by
  obtain ⟨_, _, rfl, rfl, rfl⟩ := h
  exact rfl
theorem k31_openM {w : World} {base : Nat} {ok : Nat → Prop} {x : S31} {cs : List Value} (h : k31.M w base ok x cs) : cs = [.string x.f0, .int .i64 x.f1] := by
  obtain ⟨_, _, rfl, rfl, rfl⟩ := h
  exact rfl
theorem k31_mk (w : World) (x : S31)  : k31.K w x [.string x.f0, .int .i64 x.f1] := ⟨[.string x.f0], [.int .i64 x.f1], rfl, rfl, rfl⟩
theorem k31_mkM (w : World) (base : Nat) (ok : Nat → Prop) (x : S31)  : k31.M w base ok x [.string x.f0, .int .i64 x.f1] := ⟨[.string x.f0], [.int .i64 x.f1], rfl, rfl, rfl⟩
def rd_T31 (xs : List S31) (i : Int) : S31 := xs.getD i.toNat z31
theorem at_T31 {w : World} {A : Option Addr} {n : Nat} {xs : List S31} (h : Kd.C k31 w A n xs) (i : Int) (h0 : 0 ≤ i) (h1 : i < n) : ∃ ad , A = some ad ∧ w.cell? (ad.add (i.toNat * 2)) = some (.string (rd_T31 xs i).f0) ∧ w.cell? ⟨(ad.add (i.toNat * 2)).block, (ad.add (i.toNat * 2)).off + 1, none⟩ = some (.int .i64 (rd_T31 xs i).f1) := by
  obtain ⟨ad, c, e, _, hK, hc0⟩ := Kd.C_get h z31 i h0 h1
  have hc : ∀ j u, c[j]? = some u → w.cell? (ad.add (i.toNat * 2 + j)) = some u := hc0
  obtain rfl := k31_open hK
  exact ⟨ad, e, hc 0 _ rfl, by rw [← add_field _ _ 1 (by omega)]; exact hc 1 _ rfl⟩

/-! #### struct type 67 -/
structure S67 where
  f0 : S63
  f1 : S64
  f2 : S65
  f3 : S31
def z67 : S67 := ⟨z63, z64, z65, z31⟩
def k67 : Kd S67 := Kd.iso (Kd.pair k63 (Kd.pair k64 (Kd.pair k65 k31))) (fun x : S67 => (x.f0, x.f1, x.f2, x.f3))
theorem k67_open {w : World} {x : S67} {cs : List Value} (h : k67.K w x cs) : cs = [.int .i64 x.f0.f0, .int .i64 x.f0.f1, .int .i64 x.f0.f2, .int .i64 x.f0.f3, .int .i64 x.f0.f4, .bool x.f0.f5, .int .i64 x.f1.f0, .int .i64 x.f1.f1, .int .i64 x.f2.f0, .int .i64 x.f2.f1, .bool x.f2.f2, .string x.f3.f0, .int .i64 x.f3.f1] := by
  obtain ⟨_, _, rfl, s0, ⟨_, _, rfl, s6, ⟨_, _, rfl, s8, s11⟩⟩⟩ := h
  obtain rfl := k63_open s0
  obtain rfl := k64_open s6
  obtain rfl := k65_open s8
  obtain rfl := k31_open s11
  exact rfl
theorem k67_openM {w : World} {base : Nat} {ok : Nat → Prop} {x : S67} {cs : List Value} (h : k67.M w base ok x cs) : cs = [.int .i64 x.f0.f0, .int .i64 x.f0.f1, .int .i64 x.f0.f2, .int .i64 x.f0.f3, .int .i64 x.f0.f4, .bool x.f0.f5, .int .i64 x.f1.f0, .int .i64 x.f1.f1, .int .i64 x.f2.f0, .int .i64 x.f2.f1, .bool x.f2.f2, .string x.f3.f0, .int .i64 x.f3.f1] := by
  obtain ⟨_, _, rfl, s0, ⟨_, _, rfl, s6, ⟨_, _, rfl, s8, s11⟩⟩⟩ := h
  obtain rfl := k63_openM s0
  obtain rfl := k64_openM s6
  obtain rfl := k65_openM s8
  obtain rfl := k31_openM s11
  exact rfl
theorem k67_mk (w : World) (x : S67)  : k67.K w x [.int .i64 x.f0.f0, .int .i64 x.f0.f1, .int .i64 x.f0.f2, .int .i64 x.f0.f3, .int .i64 x.f0.f4, .bool x.f0.f5, .int .i64 x.f1.f0, .int .i64 x.f1.f1, .int .i64 x.f2.f0, .int .i64 x.f2.f1, .bool x.f2.f2, .string x.f3.f0, .int .i64 x.f3.f1] := ⟨[.int .i64 x.f0.f0, .int .i64 x.f0.f1, .int .i64 x.f0.f2, .int .i64 x.f0.f3, .int .i64 x.f0.f4, .bool x.f0.f5], [.int .i64 x.f1.f0, .int .i64 x.f1.f1, .int .i64 x.f2.f0, .int .i64 x.f2.f1, .bool x.f2.f2, .string x.f3.f0, .int .i64 x.f3.f1], rfl, (k63_mk w x.f0 ), ⟨[.int .i64 x.f1.f0, .int .i64 x.f1.f1], [.int .i64 x.f2.f0, .int .i64 x.f2.f1, .bool x.f2.f2, .string x.f3.f0, .int .i64 x.f3.f1], rfl, (k64_mk w x.f1 ), ⟨[.int .i64 x.f2.f0, .int .i64 x.f2.f1, .bool x.f2.f2], [.string x.f3.f0, .int .i64 x.f3.f1], rfl, (k65_mk w x.f2 ), (k31_mk w x.f3 )⟩⟩⟩
theorem k67_mkM (w : World) (base : Nat) (ok : Nat → Prop) (x : S67)  : k67.M w base ok x [.int .i64 x.f0.f0, .int .i64 x.f0.f1, .int .i64 x.f0.f2, .int .i64 x.f0.f3, .int .i64 x.f0.f4, .bool x.f0.f5, .int .i64 x.f1.f0, .int .i64 x.f1.f1, .int .i64 x.f2.f0, .int .i64 x.f2.f1, .bool x.f2.f2, .string x.f3.f0, .int .i64 x.f3.f1] := ⟨[.int .i64 x.f0.f0, .int .i64 x.f0.f1, .int .i64 x.f0.f2, .int .i64 x.f0.f3, .int .i64 x.f0.f4, .bool x.f0.f5], [.int .i64 x.f1.f0, .int .i64 x.f1.f1, .int .i64 x.f2.f0, .int .i64 x.f2.f1, .bool x.f2.f2, .string x.f3.f0, .int .i64 x.f3.f1], rfl, (k63_mkM w base ok x.f0 ), ⟨[.int .i64 x.f1.f0, .int .i64 x.f1.f1], [.int .i64 x.f2.f0, .int .i64 x.f2.f1, .bool x.f2.f2, .string x.f3.f0, .int .i64 x.f3.f1], rfl, (k64_mkM w base ok x.f1 ), ⟨[.int .i64 x.f2.f0, .int .i64 x.f2.f1, .bool x.f2.f2], [.string x.f3.f0, .int .i64 x.f3.f1], rfl, (k65_mkM w base ok x.f2 ), (k31_mkM w base ok x.f3 )⟩⟩⟩
def rd_T67 (xs : List S67) (i : Int) : S67 := xs.getD i.toNat z67
theorem at_T67 {w : World} {A : Option Addr} {n : Nat} {xs : List S67} (h : Kd.C k67 w A n xs) (i : Int) (h0 : 0 ≤ i) (h1 : i < n) : ∃ ad , A = some ad ∧ w.cell? (ad.add (i.toNat * 13)) = some (.int .i64 (rd_T67 xs i).f0.f0) ∧ w.cell? ⟨(ad.add (i.toNat * 13)).block, (ad.add (i.toNat * 13)).off + 1, none⟩ = some (.int .i64 (rd_T67 xs i).f0.f1) ∧ w.cell? ⟨(ad.add (i.toNat * 13)).block, (ad.add (i.toNat * 13)).off + 2, none⟩ = some (.int .i64 (rd_T67 xs i).f0.f2) ∧ w.cell? ⟨(ad.add (i.toNat * 13)).block, (ad.add (i.toNat * 13)).off + 3, none⟩ = some (.int .i64 (rd_T67 xs i).f0.f3) ∧ w.cell? ⟨(ad.add (i.toNat * 13)).block, (ad.add (i.toNat * 13)).off + 4, none⟩ = some (.int .i64 (rd_T67 xs i).f0.f4) ∧ w.cell? ⟨(ad.add (i.toNat * 13)).block, (ad.add (i.toNat * 13)).off + 5, none⟩ = some (.bool (rd_T67 xs i).f0.f5) ∧ w.cell? ⟨(ad.add (i.toNat * 13)).block, (ad.add (i.toNat * 13)).off + 6, none⟩ = some (.int .i64 (rd_T67 xs i).f1.f0) ∧ w.cell? ⟨(ad.add (i.toNat * 13)).block, (ad.add (i.toNat * 13)).off + 7, none⟩ = some (.int .i64 (rd_T67 xs i).f1.f1) ∧ w.cell? ⟨(ad.add (i.toNat * 13)).block, (ad.add (i.toNat * 13)).off + 8, none⟩ = some (.int .i64 (rd_T67 xs i).f2.f0) ∧ w.cell? ⟨(ad.add (i.toNat * 13)).block, (ad.add (i.toNat * 13)).off + 9, none⟩ = some (.int .i64 (rd_T67 xs i).f2.f1) ∧ w.cell? ⟨(ad.add (i.toNat * 13)).block, (ad.add (i.toNat * 13)).off + 10, none⟩ = some (.bool (rd_T67 xs i).f2.f2) ∧ w.cell? ⟨(ad.add (i.toNat * 13)).block, (ad.add (i.toNat * 13)).off + 11, none⟩ = some (.string (rd_T67 xs i).f3.f0) ∧ w.cell? ⟨(ad.add (i.toNat * 13)).block, (ad.add (i.toNat * 13)).off + 12, none⟩ = some (.int .i64 (rd_T67 xs i).f3.f1) := by
  obtain ⟨ad, c, e, _, hK, hc0⟩ := Kd.C_get h z67 i h0 h1
  have hc : ∀ j u, c[j]? = some u → w.cell? (ad.add (i.toNat * 13 + j)) = some u := hc0
  obtain rfl := k67_open hK
  exact ⟨ad, e, hc 0 _ rfl, by rw [← add_field _ _ 1 (by omega)]; exact hc 1 _ rfl, by rw [← add_field _ _ 2 (by omega)]; exact hc 2 _ rfl, by rw [← add_field _ _ 3 (by omega)]; exact hc 3 _ rfl, by rw [← add_field _ _ 4 (by omega)]; exact hc 4 _ rfl, by rw [← add_field _ _ 5 (by omega)]; exact hc 5 _ rfl, by rw [← add_field _ _ 6 (by omega)]; exact hc 6 _ rfl, by rw [← add_field _ _ 7 (by omega)]; exact hc 7 _ rfl, by rw [← add_field _ _ 8 (by omega)]; exact hc 8 _ rfl, by rw [← add_field _ _ 9 (by omega)]; exact hc 9 _ rfl, by rw [← add_field _ _ 10 (by omega)]; exact hc 10 _ rfl, by rw [← add_field _ _ 11 (by omega)]; exact hc 11 _ rfl, by rw [← add_field _ _ 12 (by omega)]; exact hc 12 _ rfl⟩

/-! #### struct type 69 -/
structure S69 where
  f0 : S67
  f1 : Bool
  f2 : S67
def z69 : S69 := ⟨z67, false, z67⟩
def k69 : Kd S69 := Kd.iso (Kd.pair k67 (Kd.pair Kd.bool k67)) (fun x : S69 => (x.f0, x.f1, x.f2))
theorem k69_open {w : World} {x : S69} {cs : List Value} (h : k69.K w x cs) : cs = [.int .i64 x.f0.f0.f0, .int .i64 x.f0.f0.f1, .int .i64 x.f0.f0.f2, .int .i64 x.f0.f0.f3, .int .i64 x.f0.f0.f4, .bool x.f0.f0.f5, .int .i64 x.f0.f1.f0, .int .i64 x.f0.f1.f1, .int .i64 x.f0.f2.f0, .int .i64 x.f0.f2.f1, .bool x.f0.f2.f2, .string x.f0.f3.f0, .int .i64 x.f0.f3.f1, .bool x.f1, .int .i64 x.f2.f0.f0, .int .i64 x.f2.f0.f1, .int .i64 x.f2.f0.f2, .int .i64 x.f2.f0.f3, .int .i64 x.f2.f0.f4, .bool x.f2.f0.f5, .int .i64 x.f2.f1.f0, .int .i64 x.f2.f1.f1, .int .i64 x.f2.f2.f0, .int .i64 x.f2.f2.f1, .bool x.f2.f2.f2, .string x.f2.f3.f0, .int .i64 x.f2.f3.f1] := by
  obtain ⟨_, _, rfl, s0, ⟨_, _, rfl, rfl, s14⟩⟩ := h
  obtain rfl := k67_open s0
  obtain rfl := k67_open s14
  exact rfl
theorem k69_openM {w : World} {base : Nat} {ok : Nat → Prop} {x : S69} {cs : List Value} (h : k69.M w base ok x cs) : cs = [.int .i64 x.f0.f0.f0, .int .i64 x.f0.f0.f1, .int .i64 x.f0.f0.f2, .int .i64 x.f0.f0.f3, .int .i64 x.f0.f0.f4, .bool x.f0.f0.f5, .int .i64 x.f0.f1.f0, .int .i64 x.f0.f1.f1, .int .i64 x.f0.f2.f0, .int .i64 x.f0.f2.f1, .bool x.f0.f2.f2, .string x.f0.f3.f0, .int .i64 x.f0.f3.f1, .bool x.f1, .int .i64 x.f2.f0.f0, .int .i64 x.f2.f0.f1, .int .i64 x.f2.f0.f2, .int .i64 x.f2.f0.f3, .int .i64 x.f2.f0.f4, .bool x.f2.f0.f5, .int .i64 x.f2.f1.f0, .int .i64 x.f2.f1.f1, .int .i64 x.f2.f2.f0, .int .i64 x.f2.f2.f1, .bool x.f2.f2.f2, .string x.f2.f3.f0, .int .i64 x.f2.f3.f1] := by
  obtain ⟨_, _, rfl, s0, ⟨_, _, rfl, rfl, s14⟩⟩ := h
  obtain rfl := k67_openM s0
  obtain rfl := k67_openM s14
  exact rfl
theorem k69_mk (w : World) (x : S69)  : k69.K w x [.int .i64 x.f0.f0.f0, .int .i64 x.f0.f0.f1, .int .i64 x.f0.f0.f2, .int .i64 x.f0.f0.f3, .int .i64 x.f0.f0.f4, .bool x.f0.f0.f5, .int .i64 x.f0.f1.f0, .int .i64 x.f0.f1.f1, .int .i64 x.f0.f2.f0, .int .i64 x.f0.f2.f1, .bool x.f0.f2.f2, .string x.f0.f3.f0, .int .i64 x.f0.f3.f1, .bool x.f1, .int .i64 x.f2.f0.f0, .int .i64 x.f2.f0.f1, .int .i64 x.f2.f0.f2, .int .i64 x.f2.f0.f3, .int .i64 x.f2.f0.f4, .bool x.f2.f0.f5, .int .i64 x.f2.f1.f0, .int .i64 x.f2.f1.f1, .int .i64 x.f2.f2.f0, .int .i64 x.f2.f2.f1, .bool x.f2.f2.f2, .string x.f2.f3.f0, .int .i64 x.f2.f3.f1] := ⟨[.int .i64 x.f0.f0.f0, .int .i64 x.f0.f0.f1, .int .i64 x.f0.f0.f2, .int .i64 x.f0.f0.f3, .int .i64 x.f0.f0.f4, .bool x.f0.f0.f5, .int .i64 x.f0.f1.f0, .int .i64 x.f0.f1.f1, .int .i64 x.f0.f2.f0, .int .i64 x.f0.f2.f1, .bool x.f0.f2.f2, .string x.f0.f3.f0, .int .i64 x.f0.f3.f1], [.bool x.f1, .int .i64 x.f2.f0.f0, .int .i64 x.f2.f0.f1, .int .i64 x.f2.f0.f2, .int .i64 x.f2.f0.f3, .int .i64 x.f2.f0.f4, .bool x.f2.f0.f5, .int .i64 x.f2.f1.f0, .int .i64 x.f2.f1.f1, .int .i64 x.f2.f2.f0, .int .i64 x.f2.f2.f1, .bool x.f2.f2.f2, .string x.f2.f3.f0, .int .i64 x.f2.f3.f1], rfl, (k67_mk w x.f0 ), ⟨[.bool x.f1], [.int .i64 x.f2.f0.f0, .int .i64 x.f2.f0.f1, .int .i64 x.f2.f0.f2, .int .i64 x.f2.f0.f3, .int .i64 x.f2.f0.f4, .bool x.f2.f0.f5, .int .i64 x.f2.f1.f0, .int .i64 x.f2.f1.f1, .int .i64 x.f2.f2.f0, .int .i64 x.f2.f2.f1, .bool x.f2.f2.f2, .string x.f2.f3.f0, .int .i64 x.f2.f3.f1], rfl, rfl, (k67_mk w x.f2 )⟩⟩
theorem k69_mkM (w : World) (base : Nat) (ok : Nat → Prop) (x : S69)  : k69.M w base ok x [.int .i64 x.f0.f0.f0, .int .i64 x.f0.f0.f1, .int .i64 x.f0.f0.f2, .int .i64 x.f0.f0.f3, .int .i64 x.f0.f0.f4, .bool x.f0.f0.f5, .int .i64 x.f0.f1.f0, .int .i64 x.f0.f1.f1, .int .i64 x.f0.f2.f0, .int .i64 x.f0.f2.f1, .bool x.f0.f2.f2, .string x.f0.f3.f0, .int .i64 x.f0.f3.f1, .bool x.f1, .int .i64 x.f2.f0.f0, .int .i64 x.f2.f0.f1, .int .i64 x.f2.f0.f2, .int .i64 x.f2.f0.f3, .int .i64 x.f2.f0.f4, .bool x.f2.f0.f5, .int .i64 x.f2.f1.f0, .int .i64 x.f2.f1.f1, .int .i64 x.f2.f2.f0, .int .i64 x.f2.f2.f1, .bool x.f2.f2.f2, .string x.f2.f3.f0, .int .i64 x.f2.f3.f1] := ⟨[.int .i64 x.f0.f0.f0, .int .i64 x.f0.f0.f1, .int .i64 x.f0.f0.f2, .int .i64 x.f0.f0.f3, .int .i64 x.f0.f0.f4, .bool x.f0.f0.f5, .int .i64 x.f0.f1.f0, .int .i64 x.f0.f1.f1, .int .i64 x.f0.f2.f0, .int .i64 x.f0.f2.f1, .bool x.f0.f2.f2, .string x.f0.f3.f0, .int .i64 x.f0.f3.f1], [.bool x.f1, .int .i64 x.f2.f0.f0, .int .i64 x.f2.f0.f1, .int .i64 x.f2.f0.f2, .int .i64 x.f2.f0.f3, .int .i64 x.f2.f0.f4, .bool x.f2.f0.f5, .int .i64 x.f2.f1.f0, .int .i64 x.f2.f1.f1, .int .i64 x.f2.f2.f0, .int .i64 x.f2.f2.f1, .bool x.f2.f2.f2, .string x.f2.f3.f0, .int .i64 x.f2.f3.f1], rfl, (k67_mkM w base ok x.f0 ), ⟨[.bool x.f1], [.int .i64 x.f2.f0.f0, .int .i64 x.f2.f0.f1, .int .i64 x.f2.f0.f2, .int .i64 x.f2.f0.f3, .int .i64 x.f2.f0.f4, .bool x.f2.f0.f5, .int .i64 x.f2.f1.f0, .int .i64 x.f2.f1.f1, .int .i64 x.f2.f2.f0, .int .i64 x.f2.f2.f1, .bool x.f2.f2.f2, .string x.f2.f3.f0, .int .i64 x.f2.f3.f1], rfl, rfl, (k67_mkM w base ok x.f2 )⟩⟩
def rd_T69 (xs : List S69) (i : Int) : S69 := xs.getD i.toNat z69
theorem at_T69 {w : World} {A : Option Addr} {n : Nat} {xs : List S69} (h : Kd.C k69 w A n xs) (i : Int) (h0 : 0 ≤ i) (h1 : i < n) : ∃ ad , A = some ad ∧ w.cell? (ad.add (i.toNat * 27)) = some (.int .i64 (rd_T69 xs i).f0.f0.f0) ∧ w.cell? ⟨(ad.add (i.toNat * 27)).block, (ad.add (i.toNat * 27)).off + 1, none⟩ = some (.int .i64 (rd_T69 xs i).f0.f0.f1) ∧ w.cell? ⟨(ad.add (i.toNat * 27)).block, (ad.add (i.toNat * 27)).off + 2, none⟩ = some (.int .i64 (rd_T69 xs i).f0.f0.f2) ∧ w.cell? ⟨(ad.add (i.toNat * 27)).block, (ad.add (i.toNat * 27)).off + 3, none⟩ = some (.int .i64 (rd_T69 xs i).f0.f0.f3) ∧ w.cell? ⟨(ad.add (i.toNat * 27)).block, (ad.add (i.toNat * 27)).off + 4, none⟩ = some (.int .i64 (rd_T69 xs i).f0.f0.f4) ∧ w.cell? ⟨(ad.add (i.toNat * 27)).block, (ad.add (i.toNat * 27)).off + 5, none⟩ = some (.bool (rd_T69 xs i).f0.f0.f5) ∧ w.cell? ⟨(ad.add (i.toNat * 27)).block, (ad.add (i.toNat * 27)).off + 6, none⟩ = some (.int .i64 (rd_T69 xs i).f0.f1.f0) ∧ w.cell? ⟨(ad.add (i.toNat * 27)).block, (ad.add (i.toNat * 27)).off + 7, none⟩ = some (.int .i64 (rd_T69 xs i).f0.f1.f1) ∧ w.cell? ⟨(ad.add (i.toNat * 27)).block, (ad.add (i.toNat * 27)).off + 8, none⟩ = some (.int .i64 (rd_T69 xs i).f0.f2.f0) ∧ w.cell? ⟨(ad.add (i.toNat * 27)).block, (ad.add (i.toNat * 27)).off + 9, none⟩ = some (.int .i64 (rd_T69 xs i).f0.f2.f1) ∧ w.cell? ⟨(ad.add (i.toNat * 27)).block, (ad.add (i.toNat * 27)).off + 10, none⟩ = some (.bool (rd_T69 xs i).f0.f2.f2) ∧ w.cell? ⟨(ad.add (i.toNat * 27)).block, (ad.add (i.toNat * 27)).off + 11, none⟩ = some (.string (rd_T69 xs i).f0.f3.f0) ∧ w.cell? ⟨(ad.add (i.toNat * 27)).block, (ad.add (i.toNat * 27)).off + 12, none⟩ = some (.int .i64 (rd_T69 xs i).f0.f3.f1) ∧ w.cell? ⟨(ad.add (i.toNat * 27)).block, (ad.add (i.toNat * 27)).off + 13, none⟩ = some (.bool (rd_T69 xs i).f1) ∧ w.cell? ⟨(ad.add (i.toNat * 27)).block, (ad.add (i.toNat * 27)).off + 14, none⟩ = some (.int .i64 (rd_T69 xs i).f2.f0.f0) ∧ w.cell? ⟨(ad.add (i.toNat * 27)).block, (ad.add (i.toNat * 27)).off + 15, none⟩ = some (.int .i64 (rd_T69 xs i).f2.f0.f1) ∧ w.cell? ⟨(ad.add (i.toNat * 27)).block, (ad.add (i.toNat * 27)).off + 16, none⟩ = some (.int .i64 (rd_T69 xs i).f2.f0.f2) ∧ w.cell? ⟨(ad.add (i.toNat * 27)).block, (ad.add (i.toNat * 27)).off + 17, none⟩ = some (.int .i64 (rd_T69 xs i).f2.f0.f3) ∧ w.cell? ⟨(ad.add (i.toNat * 27)).block, (ad.add (i.toNat * 27)).off + 18, none⟩ = some (.int .i64 (rd_T69 xs i).f2.f0.f4) ∧ w.cell? ⟨(ad.add (i.toNat * 27)).block, (ad.add (i.toNat * 27)).off + 19, none⟩ = some (.bool (rd_T69 xs i).f2.f0.f5) ∧ w.cell? ⟨(ad.add (i.toNat * 27)).block, (ad.add (i.toNat * 27)).off + 20, none⟩ = some (.int .i64 (rd_T69 xs i).f2.f1.f0) ∧ w.cell? ⟨(ad.add (i.toNat * 27)).block, (ad.add (i.toNat * 27)).off + 21, none⟩ = some (.int .i64 (rd_T69 xs i).f2.f1.f1) ∧ w.cell? ⟨(ad.add (i.toNat * 27)).block, (ad.add (i.toNat * 27)).off + 22, none⟩ = some (.int .i64 (rd_T69 xs i).f2.f2.f0) ∧ w.cell? ⟨(ad.add (i.toNat * 27)).block, (ad.add (i.toNat * 27)).off + 23, none⟩ = some (.int .i64 (rd_T69 xs i).f2.f2.f1) ∧ w.cell? ⟨(ad.add (i.toNat * 27)).block, (ad.add (i.toNat * 27)).off + 24, none⟩ = some (.bool (rd_T69 xs i).f2.f2.f2) ∧ w.cell? ⟨(ad.add (i.toNat * 27)).block, (ad.add (i.toNat * 27)).off + 25, none⟩ = some (.string (rd_T69 xs i).f2.f3.f0) ∧ w.cell? ⟨(ad.add (i.toNat * 27)).block, (ad.add (i.toNat * 27)).off + 26, none⟩ = some (.int .i64 (rd_T69 xs i).f2.f3.f1) := by
  obtain ⟨ad, c, e, _, hK, hc0⟩ := Kd.C_get h z69 i h0 h1
  have hc : ∀ j u, c[j]? = some u → w.cell? (ad.add (i.toNat * 27 + j)) = some u := hc0
  obtain rfl := k69_open hK
  exact ⟨ad, e, hc 0 _ rfl, by rw [← add_field _ _ 1 (by omega)]; exact hc 1 _ rfl, by rw [← add_field _ _ 2 (by omega)]; exact hc 2 _ rfl, by rw [← add_field _ _ 3 (by omega)]; exact hc 3 _ rfl, by rw [← add_field _ _ 4 (by omega)]; exact hc 4 _ rfl, by rw [← add_field _ _ 5 (by omega)]; exact hc 5 _ rfl, by rw [← add_field _ _ 6 (by omega)]; exact hc 6 _ rfl, by rw [← add_field _ _ 7 (by omega)]; exact hc 7 _ rfl, by rw [← add_field _ _ 8 (by omega)]; exact hc 8 _ rfl, by rw [← add_field _ _ 9 (by omega)]; exact hc 9 _ rfl, by rw [← add_field _ _ 10 (by omega)]; exact hc 10 _ rfl, by rw [← add_field _ _ 11 (by omega)]; exact hc 11 _ rfl, by rw [← add_field _ _ 12 (by omega)]; exact hc 12 _ rfl, by rw [← add_field _ _ 13 (by omega)]; exact hc 13 _ rfl, by rw [← add_field _ _ 14 (by omega)]; exact hc 14 _ rfl, by rw [← add_field _ _ 15 (by omega)]; exact hc 15 _ rfl, by rw [← add_field _ _ 16 (by omega)]; exact hc 16 _ rfl, by rw [← add_field _ _ 17 (by omega)]; exact hc 17 _ rfl, by rw [← add_field _ _ 18 (by omega)]; exact hc 18 _ rfl, by rw [← add_field _ _ 19 (by omega)]; exact hc 19 _ rfl, by rw [← add_field _ _ 20 (by omega)]; exact hc 20 _ rfl, by rw [← add_field _ _ 21 (by omega)]; exact hc 21 _ rfl, by rw [← add_field _ _ 22 (by omega)]; exact hc 22 _ rfl, by rw [← add_field _ _ 23 (by omega)]; exact hc 23 _ rfl, by rw [← add_field _ _ 24 (by omega)]; exact hc 24 _ rfl, by rw [← add_field _ _ 25 (by omega)]; exact hc 25 _ rfl, by rw [← add_field _ _ 26 (by omega)]; exact hc 26 _ rfl⟩

/-! #### struct type 71 -/
structure S71 where
  f0 : ByteArray
  f1 : S69
  f2 : Int
  f3 : Int
def z71 : S71 := ⟨(⟨#[]⟩ : ByteArray), z69, (0 : Int), (0 : Int)⟩
def k71 : Kd S71 := Kd.iso (Kd.pair Kd.string (Kd.pair k69 (Kd.pair (Kd.int .i64) (Kd.int .i64)))) (fun x : S71 => (x.f0, x.f1, x.f2, x.f3))
theorem k71_open {w : World} {x : S71} {cs : List Value} (h : k71.K w x cs) : cs = [.string x.f0, .int .i64 x.f1.f0.f0.f0, .int .i64 x.f1.f0.f0.f1, .int .i64 x.f1.f0.f0.f2, .int .i64 x.f1.f0.f0.f3, .int .i64 x.f1.f0.f0.f4, .bool x.f1.f0.f0.f5, .int .i64 x.f1.f0.f1.f0, .int .i64 x.f1.f0.f1.f1, .int .i64 x.f1.f0.f2.f0, .int .i64 x.f1.f0.f2.f1, .bool x.f1.f0.f2.f2, .string x.f1.f0.f3.f0, .int .i64 x.f1.f0.f3.f1, .bool x.f1.f1, .int .i64 x.f1.f2.f0.f0, .int .i64 x.f1.f2.f0.f1, .int .i64 x.f1.f2.f0.f2, .int .i64 x.f1.f2.f0.f3, .int .i64 x.f1.f2.f0.f4, .bool x.f1.f2.f0.f5, .int .i64 x.f1.f2.f1.f0, .int .i64 x.f1.f2.f1.f1, .int .i64 x.f1.f2.f2.f0, .int .i64 x.f1.f2.f2.f1, .bool x.f1.f2.f2.f2, .string x.f1.f2.f3.f0, .int .i64 x.f1.f2.f3.f1, .int .i64 x.f2, .int .i64 x.f3] := by
  obtain ⟨_, _, rfl, rfl, ⟨_, _, rfl, s1, ⟨_, _, rfl, rfl, rfl⟩⟩⟩ := h
  obtain rfl := k69_open s1
  exact rfl
theorem k71_openM {w : World} {base : Nat} {ok : Nat → Prop} {x : S71} {cs : List Value} (h : k71.M w base ok x cs) : cs = [.string x.f0, .int .i64 x.f1.f0.f0.f0, .int .i64 x.f1.f0.f0.f1, .int .i64 x.f1.f0.f0.f2, .int .i64 x.f1.f0.f0.f3, .int .i64 x.f1.f0.f0.f4, .bool x.f1.f0.f0.f5, .int .i64 x.f1.f0.f1.f0, .int .i64 x.f1.f0.f1.f1, .int .i64 x.f1.f0.f2.f0, .int .i64 x.f1.f0.f2.f1, .bool x.f1.f0.f2.f2, .string x.f1.f0.f3.f0, .int .i64 x.f1.f0.f3.f1, .bool x.f1.f1, .int .i64 x.f1.f2.f0.f0, .int .i64 x.f1.f2.f0.f1, .int .i64 x.f1.f2.f0.f2, .int .i64 x.f1.f2.f0.f3, .int .i64 x.f1.f2.f0.f4, .bool x.f1.f2.f0.f5, .int .i64 x.f1.f2.f1.f0, .int .i64 x.f1.f2.f1.f1, .int .i64 x.f1.f2.f2.f0, .int .i64 x.f1.f2.f2.f1, .bool x.f1.f2.f2.f2, .string x.f1.f2.f3.f0, .int .i64 x.f1.f2.f3.f1, .int .i64 x.f2, .int .i64 x.f3] := by
  obtain ⟨_, _, rfl, rfl, ⟨_, _, rfl, s1, ⟨_, _, rfl, rfl, rfl⟩⟩⟩ := h
  obtain rfl := k69_openM s1
  exact rfl
theorem k71_mk (w : World) (x : S71)  : k71.K w x [.string x.f0, .int .i64 x.f1.f0.f0.f0, .int .i64 x.f1.f0.f0.f1, .int .i64 x.f1.f0.f0.f2, .int .i64 x.f1.f0.f0.f3, .int .i64 x.f1.f0.f0.f4, .bool x.f1.f0.f0.f5, .int .i64 x.f1.f0.f1.f0, .int .i64 x.f1.f0.f1.f1, .int .i64 x.f1.f0.f2.f0, .int .i64 x.f1.f0.f2.f1, .bool x.f1.f0.f2.f2, .string x.f1.f0.f3.f0, .int .i64 x.f1.f0.f3.f1, .bool x.f1.f1, .int .i64 x.f1.f2.f0.f0, .int .i64 x.f1.f2.f0.f1, .int .i64 x.f1.f2.f0.f2, .int .i64 x.f1.f2.f0.f3, .int .i64 x.f1.f2.f0.f4, .bool x.f1.f2.f0.f5, .int .i64 x.f1.f2.f1.f0, .int .i64 x.f1.f2.f1.f1, .int .i64 x.f1.f2.f2.f0, .int .i64 x.f1.f2.f2.f1, .bool x.f1.f2.f2.f2, .string x.f1.f2.f3.f0, .int .i64 x.f1.f2.f3.f1, .int .i64 x.f2, .int .i64 x.f3] := ⟨[.string x.f0], [.int .i64 x.f1.f0.f0.f0, .int .i64 x.f1.f0.f0.f1, .int .i64 x.f1.f0.f0.f2, .int .i64 x.f1.f0.f0.f3, .int .i64 x.f1.f0.f0.f4, .bool x.f1.f0.f0.f5, .int .i64 x.f1.f0.f1.f0, .int .i64 x.f1.f0.f1.f1, .int .i64 x.f1.f0.f2.f0, .int .i64 x.f1.f0.f2.f1, .bool x.f1.f0.f2.f2, .string x.f1.f0.f3.f0, .int .i64 x.f1.f0.f3.f1, .bool x.f1.f1, .int .i64 x.f1.f2.f0.f0, .int .i64 x.f1.f2.f0.f1, .int .i64 x.f1.f2.f0.f2, .int .i64 x.f1.f2.f0.f3, .int .i64 x.f1.f2.f0.f4, .bool x.f1.f2.f0.f5, .int .i64 x.f1.f2.f1.f0, .int .i64 x.f1.f2.f1.f1, .int .i64 x.f1.f2.f2.f0, .int .i64 x.f1.f2.f2.f1, .bool x.f1.f2.f2.f2, .string x.f1.f2.f3.f0, .int .i64 x.f1.f2.f3.f1, .int .i64 x.f2, .int .i64 x.f3], rfl, rfl, ⟨[.int .i64 x.f1.f0.f0.f0, .int .i64 x.f1.f0.f0.f1, .int .i64 x.f1.f0.f0.f2, .int .i64 x.f1.f0.f0.f3, .int .i64 x.f1.f0.f0.f4, .bool x.f1.f0.f0.f5, .int .i64 x.f1.f0.f1.f0, .int .i64 x.f1.f0.f1.f1, .int .i64 x.f1.f0.f2.f0, .int .i64 x.f1.f0.f2.f1, .bool x.f1.f0.f2.f2, .string x.f1.f0.f3.f0, .int .i64 x.f1.f0.f3.f1, .bool x.f1.f1, .int .i64 x.f1.f2.f0.f0, .int .i64 x.f1.f2.f0.f1, .int .i64 x.f1.f2.f0.f2, .int .i64 x.f1.f2.f0.f3, .int .i64 x.f1.f2.f0.f4, .bool x.f1.f2.f0.f5, .int .i64 x.f1.f2.f1.f0, .int .i64 x.f1.f2.f1.f1, .int .i64 x.f1.f2.f2.f0, .int .i64 x.f1.f2.f2.f1, .bool x.f1.f2.f2.f2, .string x.f1.f2.f3.f0, .int .i64 x.f1.f2.f3.f1], [.int .i64 x.f2, .int .i64 x.f3], rfl, (k69_mk w x.f1 ), ⟨[.int .i64 x.f2], [.int .i64 x.f3], rfl, rfl, rfl⟩⟩⟩
theorem k71_mkM (w : World) (base : Nat) (ok : Nat → Prop) (x : S71)  : k71.M w base ok x [.string x.f0, .int .i64 x.f1.f0.f0.f0, .int .i64 x.f1.f0.f0.f1, .int .i64 x.f1.f0.f0.f2, .int .i64 x.f1.f0.f0.f3, .int .i64 x.f1.f0.f0.f4, .bool x.f1.f0.f0.f5, .int .i64 x.f1.f0.f1.f0, .int .i64 x.f1.f0.f1.f1, .int .i64 x.f1.f0.f2.f0, .int .i64 x.f1.f0.f2.f1, .bool x.f1.f0.f2.f2, .string x.f1.f0.f3.f0, .int .i64 x.f1.f0.f3.f1, .bool x.f1.f1, .int .i64 x.f1.f2.f0.f0, .int .i64 x.f1.f2.f0.f1, .int .i64 x.f1.f2.f0.f2, .int .i64 x.f1.f2.f0.f3, .int .i64 x.f1.f2.f0.f4, .bool x.f1.f2.f0.f5, .int .i64 x.f1.f2.f1.f0, .int .i64 x.f1.f2.f1.f1, .int .i64 x.f1.f2.f2.f0, .int .i64 x.f1.f2.f2.f1, .bool x.f1.f2.f2.f2, .string x.f1.f2.f3.f0, .int .i64 x.f1.f2.f3.f1, .int .i64 x.f2, .int .i64 x.f3] := ⟨[.string x.f0], [.int .i64 x.f1.f0.f0.f0, .int .i64 x.f1.f0.f0.f1, .int .i64 x.f1.f0.f0.f2, .int .i64 x.f1.f0.f0.f3, .int .i64 x.f1.f0.f0.f4, .bool x.f1.f0.f0.f5, .int .i64 x.f1.f0.f1.f0, .int .i64 x.f1.f0.f1.f1, .int .i64 x.f1.f0.f2.f0, .int .i64 x.f1.f0.f2.f1, .bool x.f1.f0.f2.f2, .string x.f1.f0.f3.f0, .int .i64 x.f1.f0.f3.f1, .bool x.f1.f1, .int .i64 x.f1.f2.f0.f0, .int .i64 x.f1.f2.f0.f1, .int .i64 x.f1.f2.f0.f2, .int .i64 x.f1.f2.f0.f3, .int .i64 x.f1.f2.f0.f4, .bool x.f1.f2.f0.f5, .int .i64 x.f1.f2.f1.f0, .int .i64 x.f1.f2.f1.f1, .int .i64 x.f1.f2.f2.f0, .int .i64 x.f1.f2.f2.f1, .bool x.f1.f2.f2.f2, .string x.f1.f2.f3.f0, .int .i64 x.f1.f2.f3.f1, .int .i64 x.f2, .int .i64 x.f3], rfl, rfl, ⟨[.int .i64 x.f1.f0.f0.f0, .int .i64 x.f1.f0.f0.f1, .int .i64 x.f1.f0.f0.f2, .int .i64 x.f1.f0.f0.f3, .int .i64 x.f1.f0.f0.f4, .bool x.f1.f0.f0.f5, .int .i64 x.f1.f0.f1.f0, .int .i64 x.f1.f0.f1.f1, .int .i64 x.f1.f0.f2.f0, .int .i64 x.f1.f0.f2.f1, .bool x.f1.f0.f2.f2, .string x.f1.f0.f3.f0, .int .i64 x.f1.f0.f3.f1, .bool x.f1.f1, .int .i64 x.f1.f2.f0.f0, .int .i64 x.f1.f2.f0.f1, .int .i64 x.f1.f2.f0.f2, .int .i64 x.f1.f2.f0.f3, .int .i64 x.f1.f2.f0.f4, .bool x.f1.f2.f0.f5, .int .i64 x.f1.f2.f1.f0, .int .i64 x.f1.f2.f1.f1, .int .i64 x.f1.f2.f2.f0, .int .i64 x.f1.f2.f2.f1, .bool x.f1.f2.f2.f2, .string x.f1.f2.f3.f0, .int .i64 x.f1.f2.f3.f1], [.int .i64 x.f2, .int .i64 x.f3], rfl, (k69_mkM w base ok x.f1 ), ⟨[.int .i64 x.f2], [.int .i64 x.f3], rfl, rfl, rfl⟩⟩⟩
def rd_T71 (xs : List S71) (i : Int) : S71 := xs.getD i.toNat z71
theorem at_T71 {w : World} {A : Option Addr} {n : Nat} {xs : List S71} (h : Kd.C k71 w A n xs) (i : Int) (h0 : 0 ≤ i) (h1 : i < n) : ∃ ad , A = some ad ∧ w.cell? (ad.add (i.toNat * 30)) = some (.string (rd_T71 xs i).f0) ∧ w.cell? ⟨(ad.add (i.toNat * 30)).block, (ad.add (i.toNat * 30)).off + 1, none⟩ = some (.int .i64 (rd_T71 xs i).f1.f0.f0.f0) ∧ w.cell? ⟨(ad.add (i.toNat * 30)).block, (ad.add (i.toNat * 30)).off + 2, none⟩ = some (.int .i64 (rd_T71 xs i).f1.f0.f0.f1) ∧ w.cell? ⟨(ad.add (i.toNat * 30)).block, (ad.add (i.toNat * 30)).off + 3, none⟩ = some (.int .i64 (rd_T71 xs i).f1.f0.f0.f2) ∧ w.cell? ⟨(ad.add (i.toNat * 30)).block, (ad.add (i.toNat * 30)).off + 4, none⟩ = some (.int .i64 (rd_T71 xs i).f1.f0.f0.f3) ∧ w.cell? ⟨(ad.add (i.toNat * 30)).block, (ad.add (i.toNat * 30)).off + 5, none⟩ = some (.int .i64 (rd_T71 xs i).f1.f0.f0.f4) ∧ w.cell? ⟨(ad.add (i.toNat * 30)).block, (ad.add (i.toNat * 30)).off + 6, none⟩ = some (.bool (rd_T71 xs i).f1.f0.f0.f5) ∧ w.cell? ⟨(ad.add (i.toNat * 30)).block, (ad.add (i.toNat * 30)).off + 7, none⟩ = some (.int .i64 (rd_T71 xs i).f1.f0.f1.f0) ∧ w.cell? ⟨(ad.add (i.toNat * 30)).block, (ad.add (i.toNat * 30)).off + 8, none⟩ = some (.int .i64 (rd_T71 xs i).f1.f0.f1.f1) ∧ w.cell? ⟨(ad.add (i.toNat * 30)).block, (ad.add (i.toNat * 30)).off + 9, none⟩ = some (.int .i64 (rd_T71 xs i).f1.f0.f2.f0) ∧ w.cell? ⟨(ad.add (i.toNat * 30)).block, (ad.add (i.toNat * 30)).off + 10, none⟩ = some (.int .i64 (rd_T71 xs i).f1.f0.f2.f1) ∧ w.cell? ⟨(ad.add (i.toNat * 30)).block, (ad.add (i.toNat * 30)).off + 11, none⟩ = some (.bool (rd_T71 xs i).f1.f0.f2.f2) ∧ w.cell? ⟨(ad.add (i.toNat * 30)).block, (ad.add (i.toNat * 30)).off + 12, none⟩ = some (.string (rd_T71 xs i).f1.f0.f3.f0) ∧ w.cell? ⟨(ad.add (i.toNat * 30)).block, (ad.add (i.toNat * 30)).off + 13, none⟩ = some (.int .i64 (rd_T71 xs i).f1.f0.f3.f1) ∧ w.cell? ⟨(ad.add (i.toNat * 30)).block, (ad.add (i.toNat * 30)).off + 14, none⟩ = some (.bool (rd_T71 xs i).f1.f1) ∧ w.cell? ⟨(ad.add (i.toNat * 30)).block, (ad.add (i.toNat * 30)).off + 15, none⟩ = some (.int .i64 (rd_T71 xs i).f1.f2.f0.f0) ∧ w.cell? ⟨(ad.add (i.toNat * 30)).block, (ad.add (i.toNat * 30)).off + 16, none⟩ = some (.int .i64 (rd_T71 xs i).f1.f2.f0.f1) ∧ w.cell? ⟨(ad.add (i.toNat * 30)).block, (ad.add (i.toNat * 30)).off + 17, none⟩ = some (.int .i64 (rd_T71 xs i).f1.f2.f0.f2) ∧ w.cell? ⟨(ad.add (i.toNat * 30)).block, (ad.add (i.toNat * 30)).off + 18, none⟩ = some (.int .i64 (rd_T71 xs i).f1.f2.f0.f3) ∧ w.cell? ⟨(ad.add (i.toNat * 30)).block, (ad.add (i.toNat * 30)).off + 19, none⟩ = some (.int .i64 (rd_T71 xs i).f1.f2.f0.f4) ∧ w.cell? ⟨(ad.add (i.toNat * 30)).block, (ad.add (i.toNat * 30)).off + 20, none⟩ = some (.bool (rd_T71 xs i).f1.f2.f0.f5) ∧ w.cell? ⟨(ad.add (i.toNat * 30)).block, (ad.add (i.toNat * 30)).off + 21, none⟩ = some (.int .i64 (rd_T71 xs i).f1.f2.f1.f0) ∧ w.cell? ⟨(ad.add (i.toNat * 30)).block, (ad.add (i.toNat * 30)).off + 22, none⟩ = some (.int .i64 (rd_T71 xs i).f1.f2.f1.f1) ∧ w.cell? ⟨(ad.add (i.toNat * 30)).block, (ad.add (i.toNat * 30)).off + 23, none⟩ = some (.int .i64 (rd_T71 xs i).f1.f2.f2.f0) ∧ w.cell? ⟨(ad.add (i.toNat * 30)).block, (ad.add (i.toNat * 30)).off + 24, none⟩ = some (.int .i64 (rd_T71 xs i).f1.f2.f2.f1) ∧ w.cell? ⟨(ad.add (i.toNat * 30)).block, (ad.add (i.toNat * 30)).off + 25, none⟩ = some (.bool (rd_T71 xs i).f1.f2.f2.f2) ∧ w.cell? ⟨(ad.add (i.toNat * 30)).block, (ad.add (i.toNat * 30)).off + 26, none⟩ = some (.string (rd_T71 xs i).f1.f2.f3.f0) ∧ w.cell? ⟨(ad.add (i.toNat * 30)).block, (ad.add (i.toNat * 30)).off + 27, none⟩ = some (.int .i64 (rd_T71 xs i).f1.f2.f3.f1) ∧ w.cell? ⟨(ad.add (i.toNat * 30)).block, (ad.add (i.toNat * 30)).off + 28, none⟩ = some (.int .i64 (rd_T71 xs i).f2) ∧ w.cell? ⟨(ad.add (i.toNat * 30)).block, (ad.add (i.toNat * 30)).off + 29, none⟩ = some (.int .i64 (rd_T71 xs i).f3) := by
  obtain ⟨ad, c, e, _, hK, hc0⟩ := Kd.C_get h z71 i h0 h1
  have hc : ∀ j u, c[j]? = some u → w.cell? (ad.add (i.toNat * 30 + j)) = some u := hc0
  obtain rfl := k71_open hK
  exact ⟨ad, e, hc 0 _ rfl, by rw [← add_field _ _ 1 (by omega)]; exact hc 1 _ rfl, by rw [← add_field _ _ 2 (by omega)]; exact hc 2 _ rfl, by rw [← add_field _ _ 3 (by omega)]; exact hc 3 _ rfl, by rw [← add_field _ _ 4 (by omega)]; exact hc 4 _ rfl, by rw [← add_field _ _ 5 (by omega)]; exact hc 5 _ rfl, by rw [← add_field _ _ 6 (by omega)]; exact hc 6 _ rfl, by rw [← add_field _ _ 7 (by omega)]; exact hc 7 _ rfl, by rw [← add_field _ _ 8 (by omega)]; exact hc 8 _ rfl, by rw [← add_field _ _ 9 (by omega)]; exact hc 9 _ rfl, by rw [← add_field _ _ 10 (by omega)]; exact hc 10 _ rfl, by rw [← add_field _ _ 11 (by omega)]; exact hc 11 _ rfl, by rw [← add_field _ _ 12 (by omega)]; exact hc 12 _ rfl, by rw [← add_field _ _ 13 (by omega)]; exact hc 13 _ rfl, by rw [← add_field _ _ 14 (by omega)]; exact hc 14 _ rfl, by rw [← add_field _ _ 15 (by omega)]; exact hc 15 _ rfl, by rw [← add_field _ _ 16 (by omega)]; exact hc 16 _ rfl, by rw [← add_field _ _ 17 (by omega)]; exact hc 17 _ rfl, by rw [← add_field _ _ 18 (by omega)]; exact hc 18 _ rfl, by rw [← add_field _ _ 19 (by omega)]; exact hc 19 _ rfl, by rw [← add_field _ _ 20 (by omega)]; exact hc 20 _ rfl, by rw [← add_field _ _ 21 (by omega)]; exact hc 21 _ rfl, by rw [← add_field _ _ 22 (by omega)]; exact hc 22 _ rfl, by rw [← add_field _ _ 23 (by omega)]; exact hc 23 _ rfl, by rw [← add_field _ _ 24 (by omega)]; exact hc 24 _ rfl, by rw [← add_field _ _ 25 (by omega)]; exact hc 25 _ rfl, by rw [← add_field _ _ 26 (by omega)]; exact hc 26 _ rfl, by rw [← add_field _ _ 27 (by omega)]; exact hc 27 _ rfl, by rw [← add_field _ _ 28 (by omega)]; exact hc 28 _ rfl, by rw [← add_field _ _ 29 (by omega)]; exact hc 29 _ rfl⟩

def rd_L18 (xs : List (List Int)) (i : Int) : (List Int) := xs.getD i.toNat ([] : List Int)
theorem at_L18 {w : World} {A : Option Addr} {n : Nat} {xs : List (List Int)} (h : Kd.C (Kd.slice 3 (Kd.int .i64)) w A n xs) (i : Int) (h0 : 0 ≤ i) (h1 : i < n) : ∃ ad A0 c0, A = some ad ∧ w.cell? (ad.add i.toNat) = some (.slice A0 (rd_L18 xs i).length c0) ∧ (rd_L18 xs i).length ≤ c0 ∧ (Kd.int .i64).C w A0 (rd_L18 xs i).length (rd_L18 xs i) := by
  obtain ⟨ad, c, e, _, hK, hc0⟩ := Kd.C_get h ([] : List Int) i h0 h1
  have hc : ∀ j u, c[j]? = some u → w.cell? (ad.add (i.toNat * 1 + j)) = some u := hc0
  obtain ⟨A0, c0, rfl, l0, g0⟩ := hK
  exact ⟨ad, A0, c0, e, by have hq := hc 0 _ rfl; rwa [Nat.mul_one, Nat.add_zero] at hq, l0, g0⟩

def rd_L19 (xs : List (List S62)) (i : Int) : (List S62) := xs.getD i.toNat ([] : List S62)
theorem at_L19 {w : World} {A : Option Addr} {n : Nat} {xs : List (List S62)} (h : Kd.C (Kd.slice 62 k62) w A n xs) (i : Int) (h0 : 0 ≤ i) (h1 : i < n) : ∃ ad A0 c0, A = some ad ∧ w.cell? (ad.add i.toNat) = some (.slice A0 (rd_L19 xs i).length c0) ∧ (rd_L19 xs i).length ≤ c0 ∧ k62.C w A0 (rd_L19 xs i).length (rd_L19 xs i) := by
  obtain ⟨ad, c, e, _, hK, hc0⟩ := Kd.C_get h ([] : List S62) i h0 h1
  have hc : ∀ j u, c[j]? = some u → w.cell? (ad.add (i.toNat * 1 + j)) = some u := hc0
  obtain ⟨A0, c0, rfl, l0, g0⟩ := hK
  exact ⟨ad, A0, c0, e, by have hq := hc 0 _ rfl; rwa [Nat.mul_one, Nat.add_zero] at hq, l0, g0⟩

end Go.Proofs.YtaaldnaefdodkaaGreatDoor.PA
