-- Written by a program of this session (wip/tools/myprint.py). Not trusted: Lean checks it.
import Derived.Test.YtcicpmhcmlfhbaaGreatDoorCtx
import Derived.Test.YtcicpmhcmlfhbaaGreatDoorPAx1
namespace Go.Proofs.YtcicpmhcmlfhbaaGreatDoor.PA
open Go.RowKit Go.Proofs.YtcicpmhcmlfhbaaGreatDoorW.PrintWords Go.Proofs.YtcicpmhcmlfhbaaGreatDoorW.PrintLast Go.Proofs.YtcicpmhcmlfhbaaGreatDoorW.PrintMore
attribute [local go_sem] max2_int min2_int max_two min_two max_three min_three max_four min_four   -- for this text's walks alone
set_option linter.unusedVariables false
set_option linter.unusedSimpArgs false

/-- A state of type 31 at block g of W; what its slices lead to came in by w0. -/
def IsS31 (w0 W : World) (g : Nat) (f0 : Int) (f1 : Int) (f2 : Int) (f3 : Int) (f4 : Int) (f5 : Bool) (f6 : Int) (f7 : Int) (f8 : Int) (f9 : Int) (f10 : Bool) (f11 : ByteArray) (f12 : Int) : Prop := W.heap[g]? = some (.cells #[.int .i64 f0, .int .i64 f1, .int .i64 f2, .int .i64 f3, .int .i64 f4, .bool f5, .int .i64 f6, .int .i64 f7, .int .i64 f8, .int .i64 f9, .bool f10, .string f11, .int .i64 f12] 31 (0, 0)) ∧ w0.heap.size ≤ g
theorem IsS31.grown {w0 W : World} {g : Nat} {f0 : Int} {f1 : Int} {f2 : Int} {f3 : Int} {f4 : Int} {f5 : Bool} {f6 : Int} {f7 : Int} {f8 : Int} {f9 : Int} {f10 : Bool} {f11 : ByteArray} {f12 : Int} {W1 : World} {row : Option Nat} (h : IsS31 w0 W g f0 f1 f2 f3 f4 f5 f6 f7 f8 f9 f10 f11 f12) (hw : W.grownBy W1 row) (hne : some g ≠ row) : IsS31 w0 W1 g f0 f1 f2 f3 f4 f5 f6 f7 f8 f9 f10 f11 f12 := by
  obtain ⟨hb, hg⟩ := h
  exact ⟨blk_grown hb hw hne, hg⟩
theorem IsS31.own_neN {w0 W : World} {g : Nat} {f0 : Int} {f1 : Int} {f2 : Int} {f3 : Int} {f4 : Int} {f5 : Bool} {f6 : Int} {f7 : Int} {f8 : Int} {f9 : Int} {f10 : Bool} {f11 : ByteArray} {f12 : Int} {α : Type} {d : Kd α} {e : Nat} {base : Nat} {ok : Nat → Prop} {v : Value} {xs : List α} (h : IsS31 w0 W g f0 f1 f2 f3 f4 f5 f6 f7 f8 f9 f10 f11 f12) (ho : Kd.N d e W base ok v xs) (ht : e ≠ 31) : some g ≠ v.ownBlock := by
  obtain ⟨hb, hg⟩ := h
  exact Kd.N_ne ho hb ht
theorem IsS31.fresh {w0 W : World} {g : Nat} {f0 : Int} {f1 : Int} {f2 : Int} {f3 : Int} {f4 : Int} {f5 : Bool} {f6 : Int} {f7 : Int} {f8 : Int} {f9 : Int} {f10 : Bool} {f11 : ByteArray} {f12 : Int} (h : IsS31 w0 W g f0 f1 f2 f3 f4 f5 f6 f7 f8 f9 f10 f11 f12) : ∀ k, W.heap.size ≤ k → k ≠ g := by
  obtain ⟨hb, hg⟩ := h
  exact Kd.freshB hb
theorem IsS31.kept {w0 W : World} {g : Nat} {f0 : Int} {f1 : Int} {f2 : Int} {f3 : Int} {f4 : Int} {f5 : Bool} {f6 : Int} {f7 : Int} {f8 : Int} {f9 : Int} {f10 : Bool} {f11 : ByteArray} {f12 : Int} {W1 : World} {S : Nat → Prop} (h : IsS31 w0 W g f0 f1 f2 f3 f4 f5 f6 f7 f8 f9 f10 f11 f12) (hk : Kept W W1 S) (hne : ¬ S g) : IsS31 w0 W1 g f0 f1 f2 f3 f4 f5 f6 f7 f8 f9 f10 f11 f12 := by
  obtain ⟨hb, hg⟩ := h
  exact ⟨blk_kept hb hk hne, hg⟩
theorem IsS31.below {w0 W : World} {g : Nat} {f0 : Int} {f1 : Int} {f2 : Int} {f3 : Int} {f4 : Int} {f5 : Bool} {f6 : Int} {f7 : Int} {f8 : Int} {f9 : Int} {f10 : Bool} {f11 : ByteArray} {f12 : Int} {W1 : World} (h : IsS31 w0 W g f0 f1 f2 f3 f4 f5 f6 f7 f8 f9 f10 f11 f12) (hw : Below W.heap.size W W1) : IsS31 w0 W1 g f0 f1 f2 f3 f4 f5 f6 f7 f8 f9 f10 f11 f12 := h.grown (grown_of_below hw none) (by simp)
theorem IsS31.alloc {w0 W : World} {g : Nat} {f0 : Int} {f1 : Int} {f2 : Int} {f3 : Int} {f4 : Int} {f5 : Bool} {f6 : Int} {f7 : Int} {f8 : Int} {f9 : Int} {f10 : Bool} {f11 : ByteArray} {f12 : Int} (h : IsS31 w0 W g f0 f1 f2 f3 f4 f5 f6 f7 f8 f9 f10 f11 f12) (o : Obj) : IsS31 w0 (W.alloc o) g f0 f1 f2 f3 f4 f5 f6 f7 f8 f9 f10 f11 f12 := h.below (below_alloc (Below.refl _ _) o)
theorem IsS31.drewN {w0 W : World} {g : Nat} {f0 : Int} {f1 : Int} {f2 : Int} {f3 : Int} {f4 : Int} {f5 : Bool} {f6 : Int} {f7 : Int} {f8 : Int} {f9 : Int} {f10 : Bool} {f11 : ByteArray} {f12 : Int} (h : IsS31 w0 W g f0 f1 f2 f3 f4 f5 f6 f7 f8 f9 f10 f11 f12) (m : Nat) : IsS31 w0 (W.drewN m) g f0 f1 f2 f3 f4 f5 f6 f7 f8 f9 f10 f11 f12 := h
theorem IsS31.drew {w0 W : World} {g : Nat} {f0 : Int} {f1 : Int} {f2 : Int} {f3 : Int} {f4 : Int} {f5 : Bool} {f6 : Int} {f7 : Int} {f8 : Int} {f9 : Int} {f10 : Bool} {f11 : ByteArray} {f12 : Int} (h : IsS31 w0 W g f0 f1 f2 f3 f4 f5 f6 f7 f8 f9 f10 f11 f12) : IsS31 w0 W.drew g f0 f1 f2 f3 f4 f5 f6 f7 f8 f9 f10 f11 f12 := h
theorem IsS31.at_ {w0 W : World} {g : Nat} {f0 : Int} {f1 : Int} {f2 : Int} {f3 : Int} {f4 : Int} {f5 : Bool} {f6 : Int} {f7 : Int} {f8 : Int} {f9 : Int} {f10 : Bool} {f11 : ByteArray} {f12 : Int} {w' : World} {m : Nat} (hq : W.drewN m = w') (h : IsS31 w0 W g f0 f1 f2 f3 f4 f5 f6 f7 f8 f9 f10 f11 f12) : IsS31 w0 w' g f0 f1 f2 f3 f4 f5 f6 f7 f8 f9 f10 f11 f12 := by subst hq; exact IsS31.drewN h m
theorem IsS31.apart {w0 W : World} {g : Nat} {f0 : Int} {f1 : Int} {f2 : Int} {f3 : Int} {f4 : Int} {f5 : Bool} {f6 : Int} {f7 : Int} {f8 : Int} {f9 : Int} {f10 : Bool} {f11 : ByteArray} {f12 : Int} {α : Type} {d : Kd α} {e : Nat} {base : Nat} {ok : Nat → Prop} {v : Value} {xs : List α} (h : IsS31 w0 W g f0 f1 f2 f3 f4 f5 f6 f7 f8 f9 f10 f11 f12) (ho : d.R e W base ok v xs) (ht : ∀ q, q ∈ e :: d.E → q ≠ 31) : d.R e W base (fun k => ok k ∧ k ≠ g) v xs := by
  obtain ⟨hb, hg⟩ := h
  exact Kd.R_types ho hb ht
theorem IsS31.own_ne {w0 W : World} {g : Nat} {f0 : Int} {f1 : Int} {f2 : Int} {f3 : Int} {f4 : Int} {f5 : Bool} {f6 : Int} {f7 : Int} {f8 : Int} {f9 : Int} {f10 : Bool} {f11 : ByteArray} {f12 : Int} {α : Type} {d : Kd α} {e : Nat} {base : Nat} {ok : Nat → Prop} {v : Value} {xs : List α} (h : IsS31 w0 W g f0 f1 f2 f3 f4 f5 f6 f7 f8 f9 f10 f11 f12) (ho : d.R e W base ok v xs) (ht : e ≠ 31) : some g ≠ v.ownBlock := by
  obtain ⟨hb, hg⟩ := h
  exact Kd.R_ne ho hb ht
theorem IsS31.apartQ {w0 W : World} {g : Nat} {f0 : Int} {f1 : Int} {f2 : Int} {f3 : Int} {f4 : Int} {f5 : Bool} {f6 : Int} {f7 : Int} {f8 : Int} {f9 : Int} {f10 : Bool} {f11 : ByteArray} {f12 : Int} {α : Type} {d : Kd α} {e : Nat} {base : Nat} {ok : Nat → Prop} {v : Value} {xs : List α} (h : IsS31 w0 W g f0 f1 f2 f3 f4 f5 f6 f7 f8 f9 f10 f11 f12) (ho : d.Q e W base ok v xs) (ht : ∀ q, q ∈ e :: d.E → q ≠ 31) : d.Q e W base (fun k => ok k ∧ k ≠ g) v xs := by
  obtain ⟨hb, hg⟩ := h
  exact Kd.Q_types ho hb ht
theorem IsS31.own_neQ {w0 W : World} {g : Nat} {f0 : Int} {f1 : Int} {f2 : Int} {f3 : Int} {f4 : Int} {f5 : Bool} {f6 : Int} {f7 : Int} {f8 : Int} {f9 : Int} {f10 : Bool} {f11 : ByteArray} {f12 : Int} {α : Type} {d : Kd α} {e : Nat} {base : Nat} {ok : Nat → Prop} {v : Value} {xs : List α} (h : IsS31 w0 W g f0 f1 f2 f3 f4 f5 f6 f7 f8 f9 f10 f11 f12) (ho : d.Q e W base ok v xs) (ht : e ≠ 31) : some g ≠ v.ownBlock := by
  obtain ⟨hb, hg⟩ := h
  exact Kd.Q_ne ho hb ht
theorem IsS31.apartS {w0 W : World} {g : Nat} {f0 : Int} {f1 : Int} {f2 : Int} {f3 : Int} {f4 : Int} {f5 : Bool} {f6 : Int} {f7 : Int} {f8 : Int} {f9 : Int} {f10 : Bool} {f11 : ByteArray} {f12 : Int} {α : Type} {d : Kd α} {e : Nat} {base : Nat} {ok : Nat → Prop} {v : Value} {xs : List α} (h : IsS31 w0 W g f0 f1 f2 f3 f4 f5 f6 f7 f8 f9 f10 f11 f12) (ho : d.S e W base ok v xs) (ht : ∀ q, q ∈ e :: d.E → q ≠ 31) : d.S e W base (fun k => ok k ∧ k ≠ g) v xs := by
  obtain ⟨hb, hg⟩ := h
  exact Kd.S_types ho hb ht
theorem IsS31.own_neS {w0 W : World} {g : Nat} {f0 : Int} {f1 : Int} {f2 : Int} {f3 : Int} {f4 : Int} {f5 : Bool} {f6 : Int} {f7 : Int} {f8 : Int} {f9 : Int} {f10 : Bool} {f11 : ByteArray} {f12 : Int} {α : Type} {d : Kd α} {e : Nat} {base : Nat} {ok : Nat → Prop} {v : Value} {xs : List α} (h : IsS31 w0 W g f0 f1 f2 f3 f4 f5 f6 f7 f8 f9 f10 f11 f12) (ho : d.S e W base ok v xs) (ht : e ≠ 31) : some g ≠ v.ownBlock := by
  obtain ⟨hb, hg⟩ := h
  exact Kd.S_ne ho hb ht
theorem IsS31.lt {w0 W : World} {g : Nat} {f0 : Int} {f1 : Int} {f2 : Int} {f3 : Int} {f4 : Int} {f5 : Bool} {f6 : Int} {f7 : Int} {f8 : Int} {f9 : Int} {f10 : Bool} {f11 : ByteArray} {f12 : Int} (h : IsS31 w0 W g f0 f1 f2 f3 f4 f5 f6 f7 f8 f9 f10 f11 f12) : g < W.heap.size := by
  obtain ⟨hb, hg⟩ := h
  exact blk_lt hb
theorem IsS31.ge {w0 W : World} {g : Nat} {f0 : Int} {f1 : Int} {f2 : Int} {f3 : Int} {f4 : Int} {f5 : Bool} {f6 : Int} {f7 : Int} {f8 : Int} {f9 : Int} {f10 : Bool} {f11 : ByteArray} {f12 : Int} (h : IsS31 w0 W g f0 f1 f2 f3 f4 f5 f6 f7 f8 f9 f10 f11 f12) : w0.heap.size ≤ g := by
  obtain ⟨hb, hg⟩ := h
  exact hg
theorem IsS31.ne_blk {w0 W : World} {g : Nat} {f0 : Int} {f1 : Int} {f2 : Int} {f3 : Int} {f4 : Int} {f5 : Bool} {f6 : Int} {f7 : Int} {f8 : Int} {f9 : Int} {f10 : Bool} {f11 : ByteArray} {f12 : Int} {a : Nat} {cs : Array Value} {t : TypeId} {fr : Nat × Nat} (h : IsS31 w0 W g f0 f1 f2 f3 f4 f5 f6 f7 f8 f9 f10 f11 f12) (hb2 : W.heap[a]? = some (.cells cs t fr)) (ht : t ≠ 31) : g ≠ a := by
  obtain ⟨hb, hg⟩ := h
  rintro rfl
  rw [hb] at hb2
  injection hb2 with hb2
  injection hb2 with _ ht2
  exact ht ht2.symm
theorem IsS31.far {w0 W : World} {g : Nat} {f0 : Int} {f1 : Int} {f2 : Int} {f3 : Int} {f4 : Int} {f5 : Bool} {f6 : Int} {f7 : Int} {f8 : Int} {f9 : Int} {f10 : Bool} {f11 : ByteArray} {f12 : Int} {p : Addr} (h : IsS31 w0 W g f0 f1 f2 f3 f4 f5 f6 f7 f8 f9 f10 f11 f12) (hne : g ≠ p.block) (u : Value) : IsS31 w0 (W.setCell p u) g f0 f1 f2 f3 f4 f5 f6 f7 f8 f9 f10 f11 f12 := by
  obtain ⟨hb, hg⟩ := h
  exact ⟨blk_far hb hne u, hg⟩
theorem cellS31_0 {W : World} {g : Nat} {f0 : Int} {f1 : Int} {f2 : Int} {f3 : Int} {f4 : Int} {f5 : Bool} {f6 : Int} {f7 : Int} {f8 : Int} {f9 : Int} {f10 : Bool} {f11 : ByteArray} {f12 : Int} (h : W.heap[g]? = some (.cells #[.int .i64 f0, .int .i64 f1, .int .i64 f2, .int .i64 f3, .int .i64 f4, .bool f5, .int .i64 f6, .int .i64 f7, .int .i64 f8, .int .i64 f9, .bool f10, .string f11, .int .i64 f12] 31 (0, 0))) : W.cell? ⟨g, 0, none⟩ = some (.int .i64 f0) := (blk_cell h 0).trans rfl
theorem IsS31.set_0 {w0 W : World} {g : Nat} {f0 : Int} {f1 : Int} {f2 : Int} {f3 : Int} {f4 : Int} {f5 : Bool} {f6 : Int} {f7 : Int} {f8 : Int} {f9 : Int} {f10 : Bool} {f11 : ByteArray} {f12 : Int} (h : IsS31 w0 W g f0 f1 f2 f3 f4 f5 f6 f7 f8 f9 f10 f11 f12) (x : Int) : IsS31 w0 (W.setCell ⟨g, 0, none⟩ (.int .i64 x)) g x f1 f2 f3 f4 f5 f6 f7 f8 f9 f10 f11 f12 := by
  obtain ⟨hb, hg⟩ := h
  exact ⟨by simpa using blk_set hb 0 (.int .i64 x), hg⟩
theorem cellS31_1 {W : World} {g : Nat} {f0 : Int} {f1 : Int} {f2 : Int} {f3 : Int} {f4 : Int} {f5 : Bool} {f6 : Int} {f7 : Int} {f8 : Int} {f9 : Int} {f10 : Bool} {f11 : ByteArray} {f12 : Int} (h : W.heap[g]? = some (.cells #[.int .i64 f0, .int .i64 f1, .int .i64 f2, .int .i64 f3, .int .i64 f4, .bool f5, .int .i64 f6, .int .i64 f7, .int .i64 f8, .int .i64 f9, .bool f10, .string f11, .int .i64 f12] 31 (0, 0))) : W.cell? ⟨g, 1, none⟩ = some (.int .i64 f1) := (blk_cell h 1).trans rfl
theorem IsS31.set_1 {w0 W : World} {g : Nat} {f0 : Int} {f1 : Int} {f2 : Int} {f3 : Int} {f4 : Int} {f5 : Bool} {f6 : Int} {f7 : Int} {f8 : Int} {f9 : Int} {f10 : Bool} {f11 : ByteArray} {f12 : Int} (h : IsS31 w0 W g f0 f1 f2 f3 f4 f5 f6 f7 f8 f9 f10 f11 f12) (x : Int) : IsS31 w0 (W.setCell ⟨g, 1, none⟩ (.int .i64 x)) g f0 x f2 f3 f4 f5 f6 f7 f8 f9 f10 f11 f12 := by
  obtain ⟨hb, hg⟩ := h
  exact ⟨by simpa using blk_set hb 1 (.int .i64 x), hg⟩
theorem cellS31_2 {W : World} {g : Nat} {f0 : Int} {f1 : Int} {f2 : Int} {f3 : Int} {f4 : Int} {f5 : Bool} {f6 : Int} {f7 : Int} {f8 : Int} {f9 : Int} {f10 : Bool} {f11 : ByteArray} {f12 : Int} (h : W.heap[g]? = some (.cells #[.int .i64 f0, .int .i64 f1, .int .i64 f2, .int .i64 f3, .int .i64 f4, .bool f5, .int .i64 f6, .int .i64 f7, .int .i64 f8, .int .i64 f9, .bool f10, .string f11, .int .i64 f12] 31 (0, 0))) : W.cell? ⟨g, 2, none⟩ = some (.int .i64 f2) := (blk_cell h 2).trans rfl
theorem IsS31.set_2 {w0 W : World} {g : Nat} {f0 : Int} {f1 : Int} {f2 : Int} {f3 : Int} {f4 : Int} {f5 : Bool} {f6 : Int} {f7 : Int} {f8 : Int} {f9 : Int} {f10 : Bool} {f11 : ByteArray} {f12 : Int} (h : IsS31 w0 W g f0 f1 f2 f3 f4 f5 f6 f7 f8 f9 f10 f11 f12) (x : Int) : IsS31 w0 (W.setCell ⟨g, 2, none⟩ (.int .i64 x)) g f0 f1 x f3 f4 f5 f6 f7 f8 f9 f10 f11 f12 := by
  obtain ⟨hb, hg⟩ := h
  exact ⟨by simpa using blk_set hb 2 (.int .i64 x), hg⟩
theorem cellS31_3 {W : World} {g : Nat} {f0 : Int} {f1 : Int} {f2 : Int} {f3 : Int} {f4 : Int} {f5 : Bool} {f6 : Int} {f7 : Int} {f8 : Int} {f9 : Int} {f10 : Bool} {f11 : ByteArray} {f12 : Int} (h : W.heap[g]? = some (.cells #[.int .i64 f0, .int .i64 f1, .int .i64 f2, .int .i64 f3, .int .i64 f4, .bool f5, .int .i64 f6, .int .i64 f7, .int .i64 f8, .int .i64 f9, .bool f10, .string f11, .int .i64 f12] 31 (0, 0))) : W.cell? ⟨g, 3, none⟩ = some (.int .i64 f3) := (blk_cell h 3).trans rfl
theorem IsS31.set_3 {w0 W : World} {g : Nat} {f0 : Int} {f1 : Int} {f2 : Int} {f3 : Int} {f4 : Int} {f5 : Bool} {f6 : Int} {f7 : Int} {f8 : Int} {f9 : Int} {f10 : Bool} {f11 : ByteArray} {f12 : Int} (h : IsS31 w0 W g f0 f1 f2 f3 f4 f5 f6 f7 f8 f9 f10 f11 f12) (x : Int) : IsS31 w0 (W.setCell ⟨g, 3, none⟩ (.int .i64 x)) g f0 f1 f2 x f4 f5 f6 f7 f8 f9 f10 f11 f12 := by
  obtain ⟨hb, hg⟩ := h
  exact ⟨by simpa using blk_set hb 3 (.int .i64 x), hg⟩
theorem cellS31_4 {W : World} {g : Nat} {f0 : Int} {f1 : Int} {f2 : Int} {f3 : Int} {f4 : Int} {f5 : Bool} {f6 : Int} {f7 : Int} {f8 : Int} {f9 : Int} {f10 : Bool} {f11 : ByteArray} {f12 : Int} (h : W.heap[g]? = some (.cells #[.int .i64 f0, .int .i64 f1, .int .i64 f2, .int .i64 f3, .int .i64 f4, .bool f5, .int .i64 f6, .int .i64 f7, .int .i64 f8, .int .i64 f9, .bool f10, .string f11, .int .i64 f12] 31 (0, 0))) : W.cell? ⟨g, 4, none⟩ = some (.int .i64 f4) := (blk_cell h 4).trans rfl
theorem IsS31.set_4 {w0 W : World} {g : Nat} {f0 : Int} {f1 : Int} {f2 : Int} {f3 : Int} {f4 : Int} {f5 : Bool} {f6 : Int} {f7 : Int} {f8 : Int} {f9 : Int} {f10 : Bool} {f11 : ByteArray} {f12 : Int} (h : IsS31 w0 W g f0 f1 f2 f3 f4 f5 f6 f7 f8 f9 f10 f11 f12) (x : Int) : IsS31 w0 (W.setCell ⟨g, 4, none⟩ (.int .i64 x)) g f0 f1 f2 f3 x f5 f6 f7 f8 f9 f10 f11 f12 := by
  obtain ⟨hb, hg⟩ := h
  exact ⟨by simpa using blk_set hb 4 (.int .i64 x), hg⟩
theorem cellS31_5 {W : World} {g : Nat} {f0 : Int} {f1 : Int} {f2 : Int} {f3 : Int} {f4 : Int} {f5 : Bool} {f6 : Int} {f7 : Int} {f8 : Int} {f9 : Int} {f10 : Bool} {f11 : ByteArray} {f12 : Int} (h : W.heap[g]? = some (.cells #[.int .i64 f0, .int .i64 f1, .int .i64 f2, .int .i64 f3, .int .i64 f4, .bool f5, .int .i64 f6, .int .i64 f7, .int .i64 f8, .int .i64 f9, .bool f10, .string f11, .int .i64 f12] 31 (0, 0))) : W.cell? ⟨g, 5, none⟩ = some (.bool f5) := (blk_cell h 5).trans rfl
theorem IsS31.set_5 {w0 W : World} {g : Nat} {f0 : Int} {f1 : Int} {f2 : Int} {f3 : Int} {f4 : Int} {f5 : Bool} {f6 : Int} {f7 : Int} {f8 : Int} {f9 : Int} {f10 : Bool} {f11 : ByteArray} {f12 : Int} (h : IsS31 w0 W g f0 f1 f2 f3 f4 f5 f6 f7 f8 f9 f10 f11 f12) (x : Bool) : IsS31 w0 (W.setCell ⟨g, 5, none⟩ (.bool x)) g f0 f1 f2 f3 f4 x f6 f7 f8 f9 f10 f11 f12 := by
  obtain ⟨hb, hg⟩ := h
  exact ⟨by simpa using blk_set hb 5 (.bool x), hg⟩
theorem cellS31_6 {W : World} {g : Nat} {f0 : Int} {f1 : Int} {f2 : Int} {f3 : Int} {f4 : Int} {f5 : Bool} {f6 : Int} {f7 : Int} {f8 : Int} {f9 : Int} {f10 : Bool} {f11 : ByteArray} {f12 : Int} (h : W.heap[g]? = some (.cells #[.int .i64 f0, .int .i64 f1, .int .i64 f2, .int .i64 f3, .int .i64 f4, .bool f5, .int .i64 f6, .int .i64 f7, .int .i64 f8, .int .i64 f9, .bool f10, .string f11, .int .i64 f12] 31 (0, 0))) : W.cell? ⟨g, 6, none⟩ = some (.int .i64 f6) := (blk_cell h 6).trans rfl
theorem IsS31.set_6 {w0 W : World} {g : Nat} {f0 : Int} {f1 : Int} {f2 : Int} {f3 : Int} {f4 : Int} {f5 : Bool} {f6 : Int} {f7 : Int} {f8 : Int} {f9 : Int} {f10 : Bool} {f11 : ByteArray} {f12 : Int} (h : IsS31 w0 W g f0 f1 f2 f3 f4 f5 f6 f7 f8 f9 f10 f11 f12) (x : Int) : IsS31 w0 (W.setCell ⟨g, 6, none⟩ (.int .i64 x)) g f0 f1 f2 f3 f4 f5 x f7 f8 f9 f10 f11 f12 := by
  obtain ⟨hb, hg⟩ := h
  exact ⟨by simpa using blk_set hb 6 (.int .i64 x), hg⟩
theorem cellS31_7 {W : World} {g : Nat} {f0 : Int} {f1 : Int} {f2 : Int} {f3 : Int} {f4 : Int} {f5 : Bool} {f6 : Int} {f7 : Int} {f8 : Int} {f9 : Int} {f10 : Bool} {f11 : ByteArray} {f12 : Int} (h : W.heap[g]? = some (.cells #[.int .i64 f0, .int .i64 f1, .int .i64 f2, .int .i64 f3, .int .i64 f4, .bool f5, .int .i64 f6, .int .i64 f7, .int .i64 f8, .int .i64 f9, .bool f10, .string f11, .int .i64 f12] 31 (0, 0))) : W.cell? ⟨g, 7, none⟩ = some (.int .i64 f7) := (blk_cell h 7).trans rfl
theorem IsS31.set_7 {w0 W : World} {g : Nat} {f0 : Int} {f1 : Int} {f2 : Int} {f3 : Int} {f4 : Int} {f5 : Bool} {f6 : Int} {f7 : Int} {f8 : Int} {f9 : Int} {f10 : Bool} {f11 : ByteArray} {f12 : Int} (h : IsS31 w0 W g f0 f1 f2 f3 f4 f5 f6 f7 f8 f9 f10 f11 f12) (x : Int) : IsS31 w0 (W.setCell ⟨g, 7, none⟩ (.int .i64 x)) g f0 f1 f2 f3 f4 f5 f6 x f8 f9 f10 f11 f12 := by
  obtain ⟨hb, hg⟩ := h
  exact ⟨by simpa using blk_set hb 7 (.int .i64 x), hg⟩
theorem cellS31_8 {W : World} {g : Nat} {f0 : Int} {f1 : Int} {f2 : Int} {f3 : Int} {f4 : Int} {f5 : Bool} {f6 : Int} {f7 : Int} {f8 : Int} {f9 : Int} {f10 : Bool} {f11 : ByteArray} {f12 : Int} (h : W.heap[g]? = some (.cells #[.int .i64 f0, .int .i64 f1, .int .i64 f2, .int .i64 f3, .int .i64 f4, .bool f5, .int .i64 f6, .int .i64 f7, .int .i64 f8, .int .i64 f9, .bool f10, .string f11, .int .i64 f12] 31 (0, 0))) : W.cell? ⟨g, 8, none⟩ = some (.int .i64 f8) := (blk_cell h 8).trans rfl
theorem IsS31.set_8 {w0 W : World} {g : Nat} {f0 : Int} {f1 : Int} {f2 : Int} {f3 : Int} {f4 : Int} {f5 : Bool} {f6 : Int} {f7 : Int} {f8 : Int} {f9 : Int} {f10 : Bool} {f11 : ByteArray} {f12 : Int} (h : IsS31 w0 W g f0 f1 f2 f3 f4 f5 f6 f7 f8 f9 f10 f11 f12) (x : Int) : IsS31 w0 (W.setCell ⟨g, 8, none⟩ (.int .i64 x)) g f0 f1 f2 f3 f4 f5 f6 f7 x f9 f10 f11 f12 := by
  obtain ⟨hb, hg⟩ := h
  exact ⟨by simpa using blk_set hb 8 (.int .i64 x), hg⟩
theorem cellS31_9 {W : World} {g : Nat} {f0 : Int} {f1 : Int} {f2 : Int} {f3 : Int} {f4 : Int} {f5 : Bool} {f6 : Int} {f7 : Int} {f8 : Int} {f9 : Int} {f10 : Bool} {f11 : ByteArray} {f12 : Int} (h : W.heap[g]? = some (.cells #[.int .i64 f0, .int .i64 f1, .int .i64 f2, .int .i64 f3, .int .i64 f4, .bool f5, .int .i64 f6, .int .i64 f7, .int .i64 f8, .int .i64 f9, .bool f10, .string f11, .int .i64 f12] 31 (0, 0))) : W.cell? ⟨g, 9, none⟩ = some (.int .i64 f9) := (blk_cell h 9).trans rfl
theorem IsS31.set_9 {w0 W : World} {g : Nat} {f0 : Int} {f1 : Int} {f2 : Int} {f3 : Int} {f4 : Int} {f5 : Bool} {f6 : Int} {f7 : Int} {f8 : Int} {f9 : Int} {f10 : Bool} {f11 : ByteArray} {f12 : Int} (h : IsS31 w0 W g f0 f1 f2 f3 f4 f5 f6 f7 f8 f9 f10 f11 f12) (x : Int) : IsS31 w0 (W.setCell ⟨g, 9, none⟩ (.int .i64 x)) g f0 f1 f2 f3 f4 f5 f6 f7 f8 x f10 f11 f12 := by
  obtain ⟨hb, hg⟩ := h
  exact ⟨by simpa using blk_set hb 9 (.int .i64 x), hg⟩
theorem cellS31_10 {W : World} {g : Nat} {f0 : Int} {f1 : Int} {f2 : Int} {f3 : Int} {f4 : Int} {f5 : Bool} {f6 : Int} {f7 : Int} {f8 : Int} {f9 : Int} {f10 : Bool} {f11 : ByteArray} {f12 : Int} (h : W.heap[g]? = some (.cells #[.int .i64 f0, .int .i64 f1, .int .i64 f2, .int .i64 f3, .int .i64 f4, .bool f5, .int .i64 f6, .int .i64 f7, .int .i64 f8, .int .i64 f9, .bool f10, .string f11, .int .i64 f12] 31 (0, 0))) : W.cell? ⟨g, 10, none⟩ = some (.bool f10) := (blk_cell h 10).trans rfl
theorem IsS31.set_10 {w0 W : World} {g : Nat} {f0 : Int} {f1 : Int} {f2 : Int} {f3 : Int} {f4 : Int} {f5 : Bool} {f6 : Int} {f7 : Int} {f8 : Int} {f9 : Int} {f10 : Bool} {f11 : ByteArray} {f12 : Int} (h : IsS31 w0 W g f0 f1 f2 f3 f4 f5 f6 f7 f8 f9 f10 f11 f12) (x : Bool) : IsS31 w0 (W.setCell ⟨g, 10, none⟩ (.bool x)) g f0 f1 f2 f3 f4 f5 f6 f7 f8 f9 x f11 f12 := by
  obtain ⟨hb, hg⟩ := h
  exact ⟨by simpa using blk_set hb 10 (.bool x), hg⟩
theorem cellS31_11 {W : World} {g : Nat} {f0 : Int} {f1 : Int} {f2 : Int} {f3 : Int} {f4 : Int} {f5 : Bool} {f6 : Int} {f7 : Int} {f8 : Int} {f9 : Int} {f10 : Bool} {f11 : ByteArray} {f12 : Int} (h : W.heap[g]? = some (.cells #[.int .i64 f0, .int .i64 f1, .int .i64 f2, .int .i64 f3, .int .i64 f4, .bool f5, .int .i64 f6, .int .i64 f7, .int .i64 f8, .int .i64 f9, .bool f10, .string f11, .int .i64 f12] 31 (0, 0))) : W.cell? ⟨g, 11, none⟩ = some (.string f11) := (blk_cell h 11).trans rfl
theorem IsS31.set_11 {w0 W : World} {g : Nat} {f0 : Int} {f1 : Int} {f2 : Int} {f3 : Int} {f4 : Int} {f5 : Bool} {f6 : Int} {f7 : Int} {f8 : Int} {f9 : Int} {f10 : Bool} {f11 : ByteArray} {f12 : Int} (h : IsS31 w0 W g f0 f1 f2 f3 f4 f5 f6 f7 f8 f9 f10 f11 f12) (x : ByteArray) : IsS31 w0 (W.setCell ⟨g, 11, none⟩ (.string x)) g f0 f1 f2 f3 f4 f5 f6 f7 f8 f9 f10 x f12 := by
  obtain ⟨hb, hg⟩ := h
  exact ⟨by simpa using blk_set hb 11 (.string x), hg⟩
theorem cellS31_12 {W : World} {g : Nat} {f0 : Int} {f1 : Int} {f2 : Int} {f3 : Int} {f4 : Int} {f5 : Bool} {f6 : Int} {f7 : Int} {f8 : Int} {f9 : Int} {f10 : Bool} {f11 : ByteArray} {f12 : Int} (h : W.heap[g]? = some (.cells #[.int .i64 f0, .int .i64 f1, .int .i64 f2, .int .i64 f3, .int .i64 f4, .bool f5, .int .i64 f6, .int .i64 f7, .int .i64 f8, .int .i64 f9, .bool f10, .string f11, .int .i64 f12] 31 (0, 0))) : W.cell? ⟨g, 12, none⟩ = some (.int .i64 f12) := (blk_cell h 12).trans rfl
theorem IsS31.set_12 {w0 W : World} {g : Nat} {f0 : Int} {f1 : Int} {f2 : Int} {f3 : Int} {f4 : Int} {f5 : Bool} {f6 : Int} {f7 : Int} {f8 : Int} {f9 : Int} {f10 : Bool} {f11 : ByteArray} {f12 : Int} (h : IsS31 w0 W g f0 f1 f2 f3 f4 f5 f6 f7 f8 f9 f10 f11 f12) (x : Int) : IsS31 w0 (W.setCell ⟨g, 12, none⟩ (.int .i64 x)) g f0 f1 f2 f3 f4 f5 f6 f7 f8 f9 f10 f11 x := by
  obtain ⟨hb, hg⟩ := h
  exact ⟨by simpa using blk_set hb 12 (.int .i64 x), hg⟩
theorem IsS31.new (w0 W : World) (f0 : Int) (f1 : Int) (f2 : Int) (f3 : Int) (f4 : Int) (f5 : Bool) (f6 : Int) (f7 : Int) (f8 : Int) (f9 : Int) (f10 : Bool) (f11 : ByteArray) (f12 : Int) (hB : Below w0.heap.size w0 W) : IsS31 w0 (W.alloc (.cells #[.int .i64 f0, .int .i64 f1, .int .i64 f2, .int .i64 f3, .int .i64 f4, .bool f5, .int .i64 f6, .int .i64 f7, .int .i64 f8, .int .i64 f9, .bool f10, .string f11, .int .i64 f12] 31)) W.heap.size f0 f1 f2 f3 f4 f5 f6 f7 f8 f9 f10 f11 f12 := ⟨by simpa using heap_alloc_new W _, hB.size⟩

/-! ### spec_imPart: function 83 -/

def spec_imPart.j0 : Nat → ByteArray → Bool → Int → Int → Int → Int → Int → Bool → Int → Int → Int → Int → Bool → ByteArray → Int → Option (Int × Int × Int × Int × Int × Int × Bool × Int × Int × Int × Int × Bool × ByteArray × Int)
  | 0, _, _, _, _, _, _, _, _, _, _, _, _, _, _, _ => none
  | k + 1, x1, x21, x1000, x1001, x1002, x1003, x1004, x1005, x1006, x1007, x1008, x1009, x1010, x1011, x1012 => if x21 = true then (some (16, x1000, x1001, x1002, x1003, x1004, x1005, x1006, x1007, x1008, x1009, x1010, x1011, x1012)) else (if 2 ≤ (x1.size : Int) then (if 0 < (x1.size : Int) then (if (bt x1 0) = 83 then ((spec_shParse.f k (x1.extract 2 x1.size)).bind fun bt214 => (if bt214.2.2.2.2.2.2 = true then (some (1, bt214.1, bt214.2.1, bt214.2.2.1, bt214.2.2.2.1, bt214.2.2.2.2.1, bt214.2.2.2.2.2.1, x1006, x1007, x1008, x1009, x1010, x1011, x1012)) else (some (16, x1000, x1001, x1002, x1003, x1004, x1005, x1006, x1007, x1008, x1009, x1010, x1011, x1012)))) else (if (bt x1 0) = 79 then ((spec_orParse.f k (x1.extract 2 x1.size)).bind fun bt222 => (if bt222.2.2 = true then (some (2, x1000, x1001, x1002, x1003, x1004, x1005, bt222.1, bt222.2.1, x1008, x1009, x1010, x1011, x1012)) else (some (16, x1000, x1001, x1002, x1003, x1004, x1005, x1006, x1007, x1008, x1009, x1010, x1011, x1012)))) else (if (bt x1 0) = 80 then ((spec_imPlaces.f k (x1.extract 2 x1.size)).bind fun bt226 => (if bt226.2.2.2 = true then (if bt226.2.2.2 = true then (some (4, x1000, x1001, x1002, x1003, x1004, x1005, x1006, x1007, bt226.1, bt226.2.1, bt226.2.2.1, x1011, x1012)) else (some (16, x1000, x1001, x1002, x1003, x1004, x1005, x1006, x1007, x1008, x1009, x1010, x1011, x1012))) else ((spec_plParse.f k (x1.extract 2 x1.size)).bind fun bt231 => (if bt231.2.2.2 = true then (some (4, x1000, x1001, x1002, x1003, x1004, x1005, x1006, x1007, bt231.1, bt231.2.1, bt231.2.2.1, x1011, x1012)) else (some (16, x1000, x1001, x1002, x1003, x1004, x1005, x1006, x1007, x1008, x1009, x1010, x1011, x1012)))))) else (if (bt x1 0) = 77 then ((spec_mvParse.f k (x1.extract 2 x1.size)).bind fun bt235 => (if bt235.2.2 = true then (some (8, x1000, x1001, x1002, x1003, x1004, x1005, x1006, x1007, x1008, x1009, x1010, bt235.1, bt235.2.1)) else (some (16, x1000, x1001, x1002, x1003, x1004, x1005, x1006, x1007, x1008, x1009, x1010, x1011, x1012)))) else (some (16, x1000, x1001, x1002, x1003, x1004, x1005, x1006, x1007, x1008, x1009, x1010, x1011, x1012)))))) else (none)) else (none))

def spec_imPart.f (k : Nat) (s0_0 : Int) (s0_1 : Int) (s0_2 : Int) (s0_3 : Int) (s0_4 : Int) (s0_5 : Bool) (s0_6 : Int) (s0_7 : Int) (s0_8 : Int) (s0_9 : Int) (s0_10 : Bool) (s0_11 : ByteArray) (s0_12 : Int) (a1 : ByteArray) : Option (Int × Int × Int × Int × Int × Int × Bool × Int × Int × Int × Int × Bool × ByteArray × Int) := if (a1.size : Int) < 2 then (spec_imPart.j0 k a1 true s0_0 s0_1 s0_2 s0_3 s0_4 s0_5 s0_6 s0_7 s0_8 s0_9 s0_10 s0_11 s0_12) else (if 1 < (a1.size : Int) then (spec_imPart.j0 k a1 ((bt a1 1) != 61) s0_0 s0_1 s0_2 s0_3 s0_4 s0_5 s0_6 s0_7 s0_8 s0_9 s0_10 s0_11 s0_12) else (none))

theorem spec_imPart.mono_l : ∀ k, (∀ y0 y1 y2 y3 y4 y5 y6 y7 y8 y9 y10 y11 y12 y13 y14, LeO (spec_imPart.j0 k y0 y1 y2 y3 y4 y5 y6 y7 y8 y9 y10 y11 y12 y13 y14) (spec_imPart.j0 (k + 1) y0 y1 y2 y3 y4 y5 y6 y7 y8 y9 y10 y11 y12 y13 y14))
  | 0 => fun _ _ _ _ _ _ _ _ _ _ _ _ _ _ _ r h => by simp [spec_imPart.j0] at h
  | k + 1 => by
    have ih0 := spec_imPart.mono_l k
    · intro y0 y1 y2 y3 y4 y5 y6 y7 y8 y9 y10 y11 y12 y13 y14
      unfold spec_imPart.j0
      repeat' first
      | (with_reducible exact ih0 _ _ _ _ _ _ _ _ _ _ _ _ _ _ _)
      | (with_reducible exact spec_imPlaces.mono _ _)
      | (with_reducible exact spec_mvParse.mono _ _)
      | (with_reducible exact spec_orParse.mono _ _)
      | (with_reducible exact spec_plParse.mono _ _)
      | (with_reducible exact spec_shParse.mono _ _)
      | (with_reducible exact LeO.refl _)
      | (with_reducible exact LeO.none _)
      | (with_reducible refine LeO.ite ?_ ?_)
      | (with_reducible refine LeO.bind ?_ (fun _ => ?_))
      | exact ih0 _ _ _ _ _ _ _ _ _ _ _ _ _ _ _
      | exact spec_imPlaces.mono _ _
      | exact spec_mvParse.mono _ _
      | exact spec_orParse.mono _ _
      | exact spec_plParse.mono _ _
      | exact spec_shParse.mono _ _
      | exact LeO.none _
      | refine LeO.ite ?_ ?_
      | refine LeO.bind ?_ (fun _ => ?_)

theorem spec_imPart.mono : ∀ a0 a1 a2 a3 a4 a5 a6 a7 a8 a9 a10 a11 a12 a13 k, LeO (spec_imPart.f k a0 a1 a2 a3 a4 a5 a6 a7 a8 a9 a10 a11 a12 a13) (spec_imPart.f (k + 1) a0 a1 a2 a3 a4 a5 a6 a7 a8 a9 a10 a11 a12 a13) := by
  intro a0 a1 a2 a3 a4 a5 a6 a7 a8 a9 a10 a11 a12 a13 k
  have ih0 := spec_imPart.mono_l k
  unfold spec_imPart.f
  repeat' first
      | (with_reducible exact ih0 _ _ _ _ _ _ _ _ _ _ _ _ _ _ _)
      | (with_reducible exact spec_imPlaces.mono _ _)
      | (with_reducible exact spec_mvParse.mono _ _)
      | (with_reducible exact spec_orParse.mono _ _)
      | (with_reducible exact spec_plParse.mono _ _)
      | (with_reducible exact spec_shParse.mono _ _)
      | (with_reducible exact LeO.refl _)
      | (with_reducible exact LeO.none _)
      | (with_reducible refine LeO.ite ?_ ?_)
      | (with_reducible refine LeO.bind ?_ (fun _ => ?_))
      | exact ih0 _ _ _ _ _ _ _ _ _ _ _ _ _ _ _
      | exact spec_imPlaces.mono _ _
      | exact spec_mvParse.mono _ _
      | exact spec_orParse.mono _ _
      | exact spec_plParse.mono _ _
      | exact spec_shParse.mono _ _
      | exact LeO.none _
      | refine LeO.ite ?_ ?_
      | refine LeO.bind ?_ (fun _ => ?_)

def spec_imPart.e (k : Nat) : Refl.Ent G := ⟨83, [(.wr 1000000 31 gL4), (.c .str)], .one (.c li), fun x => spec_imPart.f k x.1 x.2.1 x.2.2.1 x.2.2.2.1 x.2.2.2.2.1 x.2.2.2.2.2.1 x.2.2.2.2.2.2.1 x.2.2.2.2.2.2.2.1 x.2.2.2.2.2.2.2.2.1 x.2.2.2.2.2.2.2.2.2.1 x.2.2.2.2.2.2.2.2.2.2.1 x.2.2.2.2.2.2.2.2.2.2.2.1 x.2.2.2.2.2.2.2.2.2.2.2.2.1 x.2.2.2.2.2.2.2.2.2.2.2.2.2⟩
def spec_imPart.pj0 : Refl.Pn G (Refl.PT G (spec_imPart.e 0).ol) := ⟨false, 1000001, ⟨[(1, .v (.c .str)), (21, .v (.c .bool)), (0, .box 1000000 0), (4, .k (Value.int IntKind.i64 0))], [(1000000, 31, gL5)]⟩, fun k x => spec_imPart.j0 k x.1 x.2.1 x.2.2.1 x.2.2.2.1 x.2.2.2.2.1 x.2.2.2.2.2.1 x.2.2.2.2.2.2.1 x.2.2.2.2.2.2.2.1 x.2.2.2.2.2.2.2.2.1 x.2.2.2.2.2.2.2.2.2.1 x.2.2.2.2.2.2.2.2.2.2.1 x.2.2.2.2.2.2.2.2.2.2.2.1 x.2.2.2.2.2.2.2.2.2.2.2.2.1 x.2.2.2.2.2.2.2.2.2.2.2.2.2.1 x.2.2.2.2.2.2.2.2.2.2.2.2.2.2⟩
theorem spec_imPart.ok (k : Nat) : Refl.EntOK Tryz.prog (spec_imPart.e k) := Refl.ent_ok 1000000 k GC (fun k => [spec_shParse.e k, spec_orParse.e k, spec_imPlaces.e k, spec_plParse.e k, spec_mvParse.e k]) (fun k => ⟨spec_shParse.ok k, spec_orParse.ok k, spec_imPlaces.ok k, spec_plParse.ok k, spec_mvParse.ok k, trivial⟩) Tryz.func83 (by kernel_rfl) [spec_imPart.pj0] (ps := [spec_imPart.pj0]) (by kernel_rfl) ⟨⟨fun x => by kernel_rfl, fun k x => by kernel_rfl⟩, trivial⟩ (fun x => by kernel_rfl)

/-! ### spec_imRead: function 46 -/

def spec_imRead.l0 : Nat → Int → List ByteArray → Int → Int → Int → Int → Int → Int → Int → Bool → Int → Int → Int → Int → Bool → ByteArray → Int → Option (Int × Int × Int × Int × Int × Bool × Int × Int × Int × Int × Bool × ByteArray × Int × Int)
  | 0, _, _, _, _, _, _, _, _, _, _, _, _, _, _, _, _, _ => none
  | k + 1, x9, x25, x26, x27, x253000, x253001, x253002, x253003, x253004, x253005, x253006, x253007, x253008, x253009, x253010, x253011, x253012 => if x27 < x26 then (if 0 ≤ x27 then (if x27 < (x25.length : Int) then (if (rdOf ByteArray.empty x25 x27).toList = ([] : List UInt8) then (spec_imRead.l0 k x9 x25 x26 (wrap64 (x27 + 1)) x253000 x253001 x253002 x253003 x253004 x253005 x253006 x253007 x253008 x253009 x253010 x253011 x253012) else ((spec_imPart.f k x253000 x253001 x253002 x253003 x253004 x253005 x253006 x253007 x253008 x253009 x253010 x253011 x253012 (rdOf ByteArray.empty x25 x27)).bind fun bt257 => (spec_imRead.l0 k (Go.bits .or .i64 x9 bt257.1) x25 x26 (wrap64 (x27 + 1)) bt257.2.1 bt257.2.2.1 bt257.2.2.2.1 bt257.2.2.2.2.1 bt257.2.2.2.2.2.1 bt257.2.2.2.2.2.2.1 bt257.2.2.2.2.2.2.2.1 bt257.2.2.2.2.2.2.2.2.1 bt257.2.2.2.2.2.2.2.2.2.1 bt257.2.2.2.2.2.2.2.2.2.2.1 bt257.2.2.2.2.2.2.2.2.2.2.2.1 bt257.2.2.2.2.2.2.2.2.2.2.2.2.1 bt257.2.2.2.2.2.2.2.2.2.2.2.2.2))) else (none)) else (none)) else (some (x253000, x253001, x253002, x253003, x253004, x253005, x253006, x253007, x253008, x253009, x253010, x253011, x253012, x9))

def spec_imRead.f (k : Nat) (a0 : ByteArray) : Option (Int × Int × Int × Int × Int × Bool × Int × Int × Int × Int × Bool × ByteArray × Int × Int) := (spec_shParse.f k (⟨#[48, 48, 48, 48, 48]⟩ : ByteArray)).bind fun bt240 => ((spec_orParse.f k (⟨#[102, 117]⟩ : ByteArray)).bind fun bt248 => ((spec_l1Split.f k a0 59).bind fun t253 => (spec_imRead.l0 k 0 t253 (t253.length : Int) 0 bt240.1 bt240.2.1 bt240.2.2.1 bt240.2.2.2.1 bt240.2.2.2.2.1 bt240.2.2.2.2.2.1 bt248.1 bt248.2.1 0 0 false (⟨#[]⟩ : ByteArray) 1)))

theorem spec_imRead.mono_l : ∀ k, (∀ y0 y1 y2 y3 y4 y5 y6 y7 y8 y9 y10 y11 y12 y13 y14 y15 y16, LeO (spec_imRead.l0 k y0 y1 y2 y3 y4 y5 y6 y7 y8 y9 y10 y11 y12 y13 y14 y15 y16) (spec_imRead.l0 (k + 1) y0 y1 y2 y3 y4 y5 y6 y7 y8 y9 y10 y11 y12 y13 y14 y15 y16))
  | 0 => fun _ _ _ _ _ _ _ _ _ _ _ _ _ _ _ _ _ r h => by simp [spec_imRead.l0] at h
  | k + 1 => by
    have ih0 := spec_imRead.mono_l k
    · intro y0 y1 y2 y3 y4 y5 y6 y7 y8 y9 y10 y11 y12 y13 y14 y15 y16
      unfold spec_imRead.l0
      repeat' first
      | (with_reducible exact ih0 _ _ _ _ _ _ _ _ _ _ _ _ _ _ _ _ _)
      | (with_reducible exact spec_imPart.mono _ _ _ _ _ _ _ _ _ _ _ _ _ _ _)
      | (with_reducible exact spec_l1Split.mono _ _ _)
      | (with_reducible exact spec_orParse.mono _ _)
      | (with_reducible exact spec_shParse.mono _ _)
      | (with_reducible exact LeO.refl _)
      | (with_reducible exact LeO.none _)
      | (with_reducible refine LeO.ite ?_ ?_)
      | (with_reducible refine LeO.bind ?_ (fun _ => ?_))
      | exact ih0 _ _ _ _ _ _ _ _ _ _ _ _ _ _ _ _ _
      | exact spec_imPart.mono _ _ _ _ _ _ _ _ _ _ _ _ _ _ _
      | exact spec_l1Split.mono _ _ _
      | exact spec_orParse.mono _ _
      | exact spec_shParse.mono _ _
      | exact LeO.none _
      | refine LeO.ite ?_ ?_
      | refine LeO.bind ?_ (fun _ => ?_)

theorem spec_imRead.mono : ∀ a0 k, LeO (spec_imRead.f k a0) (spec_imRead.f (k + 1) a0) := by
  intro a0 k
  have ih0 := spec_imRead.mono_l k
  unfold spec_imRead.f
  repeat' first
      | (with_reducible exact ih0 _ _ _ _ _ _ _ _ _ _ _ _ _ _ _ _ _)
      | (with_reducible exact spec_imPart.mono _ _ _ _ _ _ _ _ _ _ _ _ _ _ _)
      | (with_reducible exact spec_l1Split.mono _ _ _)
      | (with_reducible exact spec_orParse.mono _ _)
      | (with_reducible exact spec_shParse.mono _ _)
      | (with_reducible exact LeO.refl _)
      | (with_reducible exact LeO.none _)
      | (with_reducible refine LeO.ite ?_ ?_)
      | (with_reducible refine LeO.bind ?_ (fun _ => ?_))
      | exact ih0 _ _ _ _ _ _ _ _ _ _ _ _ _ _ _ _ _
      | exact spec_imPart.mono _ _ _ _ _ _ _ _ _ _ _ _ _ _ _
      | exact spec_l1Split.mono _ _ _
      | exact spec_orParse.mono _ _
      | exact spec_shParse.mono _ _
      | exact LeO.none _
      | refine LeO.ite ?_ ?_
      | refine LeO.bind ?_ (fun _ => ?_)

def spec_imRead.e (k : Nat) : Refl.Ent G := ⟨46, [(.c .str)], .tup [(.agg gL4), (.c li)], fun x => spec_imRead.f k x⟩
def spec_imRead.pl0 : Refl.Pn G (Refl.PT G (spec_imRead.e 0).ol) := ⟨true, 0, ⟨[(9, .v (.c li)), (25, .v (.c (.row 9 false))), (26, .v (.c li)), (27, .v (.c li)), (8, .box 8 0), (2, .box 2 0), (3, .k (Value.int IntKind.i64 0))], [(8, 31, gL5), (2, 31, gL6)]⟩, fun k x => spec_imRead.l0 k x.1 x.2.1 x.2.2.1 x.2.2.2.1 x.2.2.2.2.1 x.2.2.2.2.2.1 x.2.2.2.2.2.2.1 x.2.2.2.2.2.2.2.1 x.2.2.2.2.2.2.2.2.1 x.2.2.2.2.2.2.2.2.2.1 x.2.2.2.2.2.2.2.2.2.2.1 x.2.2.2.2.2.2.2.2.2.2.2.1 x.2.2.2.2.2.2.2.2.2.2.2.2.1 x.2.2.2.2.2.2.2.2.2.2.2.2.2.1 x.2.2.2.2.2.2.2.2.2.2.2.2.2.2.1 x.2.2.2.2.2.2.2.2.2.2.2.2.2.2.2.1 x.2.2.2.2.2.2.2.2.2.2.2.2.2.2.2.2⟩
theorem spec_imRead.ok (k : Nat) : Refl.EntOK Tryz.prog (spec_imRead.e k) := Refl.ent_ok 1000000 k GC (fun k => [spec_shParse.e k, spec_orParse.e k, spec_l1Split.e k, spec_imPart.e k]) (fun k => ⟨spec_shParse.ok k, spec_orParse.ok k, spec_l1Split.ok k, spec_imPart.ok k, trivial⟩) Tryz.func46 (by kernel_rfl) [spec_imRead.pl0] (ps := [spec_imRead.pl0]) (by kernel_rfl) ⟨⟨fun x => by kernel_rfl, fun k x => by kernel_rfl⟩, trivial⟩ (fun x => by kernel_rfl)

/-! ### spec_ImportHand: function 9 -/

def spec_ImportHand.f (k : Nat) (a0 : ByteArray) : Option (Int × Int × Int × Int × Int × Bool × Int × Int × Int × Int × Bool × ByteArray × Int × Int × Bool) := (spec_imGiven.f a0).bind fun t272 => (if t272 = true then ((spec_imRead.f k a0).bind fun bt273 => (some (bt273.1, bt273.2.1, bt273.2.2.1, bt273.2.2.2.1, bt273.2.2.2.2.1, bt273.2.2.2.2.2.1, bt273.2.2.2.2.2.2.1, bt273.2.2.2.2.2.2.2.1, bt273.2.2.2.2.2.2.2.2.1, bt273.2.2.2.2.2.2.2.2.2.1, bt273.2.2.2.2.2.2.2.2.2.2.1, bt273.2.2.2.2.2.2.2.2.2.2.2.1, bt273.2.2.2.2.2.2.2.2.2.2.2.2.1, bt273.2.2.2.2.2.2.2.2.2.2.2.2.2, true))) else (some (0, 0, 0, 0, 0, false, 0, 0, 0, 0, false, (⟨#[]⟩ : ByteArray), 0, 0, false)))

theorem spec_ImportHand.mono : ∀ a0 k, LeO (spec_ImportHand.f k a0) (spec_ImportHand.f (k + 1) a0) := by
  intro a0 k
  unfold spec_ImportHand.f
  repeat' first
      | (with_reducible exact spec_imRead.mono _ _)
      | (with_reducible exact LeO.refl _)
      | (with_reducible exact LeO.none _)
      | (with_reducible refine LeO.ite ?_ ?_)
      | (with_reducible refine LeO.bind ?_ (fun _ => ?_))
      | exact spec_imRead.mono _ _
      | exact LeO.none _
      | refine LeO.ite ?_ ?_
      | refine LeO.bind ?_ (fun _ => ?_)

def spec_ImportHand.e (k : Nat) : Refl.Ent G := ⟨9, [(.c .str)], .tup [(.agg gL4), (.c li), (.c .bool)], fun x => spec_ImportHand.f k x⟩
theorem spec_ImportHand.ok (k : Nat) : Refl.EntOK Tryz.prog (spec_ImportHand.e k) := Refl.ent_ok 1000000 k GC (fun k => [spec_imGiven.e k, spec_imRead.e k]) (fun k => ⟨spec_imGiven.ok k, spec_imRead.ok k, trivial⟩) Tryz.func9 (by kernel_rfl) [] (ps := []) (by kernel_rfl) trivial (fun x => by kernel_rfl)

/-! ### strings_Split: function 135 -/

def strings_Split.f (a0 : ByteArray) (a1 : ByteArray) : Option (List ByteArray) := if a0.size < 4294967281 ∧ 1 ≤ a1.size then some (Lib.splitB a1 0 (Lib.countB a0 a1) a0) else none

def strings_Split.e (k : Nat) : Refl.Ent G := ⟨135, [(.c .str), (.c .str)], .one (.c (.row 9 true)), fun x => strings_Split.f x.1 x.2⟩
theorem split_new (a0 a1 : ByteArray) (w : World) (h1 : a0.size < 4294967281) (h2 : 1 ≤ a1.size) : Refl.NewRow w (w.alloc (.cells ((Lib.splitB a1 0 (Lib.countB a0 a1) a0).map Value.string).toArray 9)) rkStr 9 (Lib.splitB a1 0 (Lib.countB a0 a1) a0) (.slice (some ⟨w.heap.size, 0, none⟩) (Lib.countB a0 a1 + 1) (Lib.countB a0 a1 + 1)) := by
  have hlen := Lib.splitB_all a1 h2 0 _ a0 rfl
  have hcb := Lib.countB_le a1 h2 a0.size a0 (Nat.le_refl _)
  have hf : ∀ l : List ByteArray, l.flatMap rkStr.enc = l.map Value.string := fun l => by
    induction l with
    | nil => rfl
    | cons a l ih => rw [List.flatMap_cons, ih]; rfl
  refine ⟨by rw [hlen]; unfold maxLen; omega, .inr ⟨w.heap.size, ((Lib.splitB a1 0 (Lib.countB a0 a1) a0).map Value.string).toArray, Lib.countB a0 a1 + 1, [], Nat.le_refl _, (by show (w.heap.push _)[w.heap.size]? = _; exact Array.getElem?_push_size ..), by rw [hf]; simp, by omega, by unfold maxLen; omega, ?_, by rw [hlen]⟩⟩
  rw [List.size_toArray, List.length_map, hlen]
  exact (Nat.mul_one _).symm
theorem strings_Split.ok (k : Nat) : Refl.EntOK Tryz.prog (strings_Split.e k) := Refl.entOK_newL Tryz.func135 (by kernel_rfl) (fun x y h S w vals hl hv => by
  cases vals with
  | nil => exact hv.elim
  | cons y0 vals =>
    cases vals with
    | nil => exact hv.2.elim
    | cons y1 vals =>
      cases vals with
      | cons _ _ => exact hv.2.2.elim
      | nil =>
        obtain ⟨rfl, rfl, -⟩ := hv
        obtain ⟨-, -, -, -, m, hm⟩ := hl
        replace h : strings_Split.f x.1 x.2 = some y := h
        unfold strings_Split.f at h
        split at h
        · rename_i hs
          obtain rfl := Option.some.inj h
          refine (Tryz.strings_Split x.1 x.2 m w hs.1 hm hs.2).mono ?_
          rintro en w' ⟨rfl, rfl⟩
          obtain ⟨μ, m1, m2, m3⟩ := Refl.newRow_rep (Γ := G) (q := 9) (S := S) (split_new x.1 x.2 w hs.1 hs.2)
          exact ⟨μ, [.f (.c (.row 9 (Lib.splitB x.2 0 (Lib.countB x.1 x.2) x.1) (.tok 0 0)))], [_], [.row 9 (Lib.splitB x.2 0 (Lib.countB x.1 x.2) x.1) (.tok 0 0)], rfl, (Below.refl _ _).alloc (Nat.le_refl _) _, m1, m2, ⟨m3, trivial⟩, by kernel_rfl, by kernel_rfl, by kernel_rfl⟩
        · cases h)

/-! ### impl_within: function 63 -/

-- JOINS  | BOXES 
def impl_within.f (a0 : Int) (a1 : Int) (a2 : Int) : Option (Bool) := if a0 ≥ a1 then (some (decide (a0 ≤ a2))) else (some false)
set_option maxHeartbeats 8000000 in
set_option maxRecDepth 100000 in
theorem impl_within.calls (a0 : Int) (a1 : Int) (a2 : Int) (r : Bool) (w : World) (h : impl_within.f a0 a1 a2 = some r) :
    Calls Tryz.prog 63 #[.int .i64 a0, .int .i64 a1, .int .i64 a2] w fun e w' => e = .returned (.bool r) ∧ Drawn0 w w' := by
  have H : (if a0 ≥ a1 then (some (decide (a0 ≤ a2))) else (some false)) = some r := h
  clear h
  by_cases c4 : a0 ≥ a1
  · rw [if_pos c4] at H
    have c4b0 : decide (a1 ≤ a0) = true := decide_eq_true c4
    clear c4
    obtain rfl := Option.some.inj H
    go_enter Tryz.func63, Tryz.ntmps63
    go_wp2
    go_ret
    exact ⟨by first | rfl | (simp; done) | (simp [*]; done), by repeat (first | exact Drawn0.refl _ | apply Drawn0.step)⟩
  · rw [if_neg c4] at H
    have c4b0 : decide (a1 ≤ a0) = false := decide_eq_false c4
    clear c4
    obtain rfl := Option.some.inj H
    go_enter Tryz.func63, Tryz.ntmps63
    go_wp2
    go_ret
    exact ⟨by first | rfl | (simp; done) | (simp [*]; done), by repeat (first | exact Drawn0.refl _ | apply Drawn0.step)⟩

def impl_within.e (k : Nat) : Refl.Ent G := ⟨63, [(.c li), (.c li), (.c li)], .one (.c .bool), fun x => impl_within.f x.1 x.2.1 x.2.2⟩
theorem impl_within.ok (k : Nat) : Refl.EntOK Tryz.prog (impl_within.e k) := Refl.ent_ok 1000000 k GC (fun k => []) (fun k => trivial) Tryz.func63 (by kernel_rfl) [] (ps := []) (by kernel_rfl) trivial (fun x => by kernel_rfl)

/-! ### impl_allWithin: function 112 -/

def awOut (a1 a2 x : Int) : Bool := !decide (a1 ≤ x ∧ x ≤ a2)
/-- The first place with such a number, or -1. -/

def awIdx (a1 a2 : Int) : Nat → List Int → Int
  | _, [] => -1
  | i, x :: xs => if awOut a1 a2 x = true then (i : Int) else awIdx a1 a2 (i + 1) xs

def awAll (a1 a2 : Int) (l : List Int) : Bool := l.all fun x => decide (a1 ≤ x ∧ x ≤ a2)

theorem awIdx_all (a1 a2 : Int) : ∀ (l : List Int) (i : Nat), (!decide (0 ≤ awIdx a1 a2 i l)) = awAll a1 a2 l
  | [], i => by simp [awIdx, awAll]
  | x :: xs, i => by
    unfold awIdx
    by_cases h : awOut a1 a2 x = true
    · rw [if_pos h]
      unfold awOut at h
      simp only [Bool.not_eq_true'] at h
      simp only [awAll, List.all_cons, h, Bool.false_and]
      simp
    · rw [if_neg h, awIdx_all a1 a2 xs (i + 1)]
      unfold awOut at h
      simp only [Bool.not_eq_true', Bool.not_eq_false] at h
      simp only [awAll, List.all_cons, h, Bool.true_and]

theorem aw_within (a b c : Int) : impl_within.f a b c = some (decide (b ≤ a ∧ a ≤ c)) := by
  unfold impl_within.f
  by_cases h : b ≤ a
  · rw [if_pos h]; simp [h]
  · rw [if_neg h]; simp [h]

def AWFrom (a1 a2 : Int) (l : List Int) (i : Nat) (r : Int) : Prop := i ≤ l.length ∧ awIdx a1 a2 i (l.drop i) = r

theorem aw_step {a1 a2 : Int} {l : List Int} {i : Nat} {r : Int} (h : AWFrom a1 a2 l i r) (hlt : i < l.length) : (awOut a1 a2 (rd l (i : Int)) = false → AWFrom a1 a2 l (i + 1) r) ∧ (awOut a1 a2 (rd l (i : Int)) = true → r = (i : Int)) := by
  obtain ⟨_, h⟩ := h
  rw [List.drop_eq_getElem_cons hlt] at h
  unfold awIdx at h
  have e : rd l (i : Int) = l[i] := by
    unfold rd
    rw [List.getD_eq_getElem?_getD]
    simp [hlt]
  rw [e]
  refine ⟨fun e => ?_, fun e => ?_⟩
  · rw [e, if_neg (by decide)] at h; exact ⟨by omega, h⟩
  · rw [if_pos e] at h; exact h.symm

theorem aw_end {a1 a2 : Int} {l : List Int} {i : Nat} {r : Int} (h : AWFrom a1 a2 l i r) (hge : ¬ i < l.length) : r = -1 := by
  obtain ⟨hi, h⟩ := h
  rw [List.drop_eq_nil_of_le (by omega)] at h
  exact h.symm

def impl_allWithin.f (l0 : List Int) (a1 a2 : Int) : Option Bool := if l0.length ≤ 1000 then some (awAll a1 a2 l0) else none

def impl_allWithin.e (k : Nat) : Refl.Ent G := ⟨112, [(.c (.row 3 false)), (.c li), (.c li)], .one (.c .bool), fun x => impl_allWithin.f x.1 x.2.1 x.2.2⟩
def aw1.f (x a b : Int) : Option Bool := (impl_within.f x a b).bind fun t => some (!t)
def aw1.e (k : Nat) : Refl.Ent G := ⟨158, [.c li, .ref [li], .ref [li]], .one (.c .bool), fun x => aw1.f x.1 x.2.1 x.2.2⟩
theorem aw1.ok (k : Nat) : Refl.EntOK Tryz.prog (aw1.e k) := Refl.ent_ok 1000000 k GC (fun k => [impl_within.e k]) (fun k => ⟨impl_within.ok k, trivial⟩) Tryz.func158 (by kernel_rfl) [] (ps := []) (by kernel_rfl) trivial (fun x => by kernel_rfl)
def aw2.l0 : Nat → List Int → Int → Int → Int → Int → Option Int
  | 0, _, _, _, _, _ => none
  | k + 1, l, a, b, n, i => if i < n then (if 0 ≤ i then (if i < (l.length : Int) then ((aw1.f (rd l i) a b).bind fun t => if t = true then (some i) else (aw2.l0 k l a b n (wrap64 (i + 1)))) else (none)) else (none)) else (some (-1))
def aw2.f (k : Nat) (l : List Int) (a b : Int) : Option Int := aw2.l0 k l a b (l.length : Int) 0
def aw2.e (k : Nat) : Refl.Ent G := ⟨190, [.c (.row 3 false), .clo 158 [[li], [li]]], .one (.c li), fun x => aw2.f k x.1 x.2.1 x.2.2⟩
def aw2.p : Refl.Pn G (Refl.PT G (aw2.e 0).ol) := ⟨true, 0, ⟨[(0, .v (.c (.row 3 false))), (1, .v (.clo 158 [[li], [li]])), (7, .v (.c li)), (8, .v (.c li)), (4, .k (.int .i64 0))], []⟩, fun k x => aw2.l0 k x.1 x.2.1 x.2.2.1 x.2.2.2.1 x.2.2.2.2⟩
theorem aw2.ok (k : Nat) : Refl.EntOK Tryz.prog (aw2.e k) := Refl.ent_ok 1000000 k GC (fun k => [aw1.e k]) (fun k => ⟨aw1.ok k, trivial⟩) Tryz.func190 (by kernel_rfl) [aw2.p] (ps := [aw2.p]) (by kernel_rfl) ⟨⟨fun x => by kernel_rfl, fun k x => by kernel_rfl⟩, trivial⟩ (fun x => by kernel_rfl)
def aw3.f (k : Nat) (l : List Int) (a b : Int) : Option Bool := (aw2.f k l a b).bind fun t => some (decide (t ≥ 0))
def aw3.e (k : Nat) : Refl.Ent G := ⟨157, [.c (.row 3 false), .clo 158 [[li], [li]]], .one (.c .bool), fun x => aw3.f k x.1 x.2.1 x.2.2⟩
theorem aw3.ok (k : Nat) : Refl.EntOK Tryz.prog (aw3.e k) := Refl.ent_ok 1000000 k GC (fun k => [aw2.e k]) (fun k => ⟨aw2.ok k, trivial⟩) Tryz.func157 (by kernel_rfl) [] (ps := []) (by kernel_rfl) trivial (fun x => by kernel_rfl)
def aw0.f (k : Nat) (l : List Int) (a b : Int) : Option Bool := (aw3.f k l a b).bind fun t => some (!t)
def aw0.e (k : Nat) : Refl.Ent G := ⟨112, [.c (.row 3 false), .c li, .c li], .one (.c .bool), fun x => aw0.f k x.1 x.2.1 x.2.2⟩
theorem aw0.ok (k : Nat) : Refl.EntOK Tryz.prog (aw0.e k) := Refl.ent_ok 1000000 k GC (fun k => [aw3.e k]) (fun k => ⟨aw3.ok k, trivial⟩) Tryz.func112 (by kernel_rfl) [] (ps := []) (by kernel_rfl) trivial (fun x => by kernel_rfl)
theorem aw1_eq (x a b : Int) : aw1.f x a b = some (awOut a b x) := by
  unfold aw1.f awOut
  rw [aw_within]
  rfl
theorem aw2_eq (l : List Int) (a b : Int) (hl : l.length ≤ 1000) : ∀ (k i : Nat), l.length - i < k → i ≤ l.length → aw2.l0 k l a b (l.length : Int) (i : Int) = some (awIdx a b i (l.drop i))
  | 0, i, h, _ => by omega
  | k + 1, i, h, hi => by
    unfold aw2.l0
    by_cases hlt : i < l.length
    · have hd := List.drop_eq_getElem_cons hlt
      rw [if_pos (by omega), if_pos (by omega), if_pos (by omega), aw1_eq]
      have e : rd l (i : Int) = l[i] := by
        unfold rd
        rw [List.getD_eq_getElem?_getD]
        simp [hlt]
      rw [e, hd]
      simp only [Option.bind_some, awIdx]
      by_cases ho : awOut a b l[i] = true
      · rw [if_pos ho, if_pos ho]
      · rw [if_neg ho, if_neg ho, show wrap64 ((i : Int) + 1) = ((i + 1 : Nat) : Int) from by unfold wrap64; omega]
        exact aw2_eq l a b hl k (i + 1) (by omega) (by omega)
    · rw [if_neg (by omega), List.drop_eq_nil_of_le (by omega)]
      rfl
theorem impl_allWithin.ok (k : Nat) : Refl.EntOK Tryz.prog (impl_allWithin.e k) := (aw0.ok 1002).weaken _ fun x y h => by
  obtain ⟨l, a, b⟩ := x
  have h : impl_allWithin.f l a b = some y := h
  show aw0.f 1002 l a b = some y
  unfold impl_allWithin.f at h
  split at h
  · rename_i hl
    have := aw2_eq l a b hl 1002 0 (by omega) (by omega)
    unfold aw0.f aw3.f aw2.f
    rw [show ((0 : Nat) : Int) = 0 from rfl] at this
    rw [this, ← h, ← awIdx_all a b l 0]
    rfl
  · cases h

/-! ### impl_Shape_bends: function 113 -/

def impl_Shape_bends.f (a0_0 : Int) (a0_1 : Int) (a0_2 : Int) (a0_3 : Int) (a0_4 : Int) (a0_5 : Bool) : Option (List Int) := some (([a0_1, a0_2, a0_3, a0_4] : List Int))

def impl_Shape_bends.e (k : Nat) : Refl.Ent G := ⟨113, [(.agg [li, li, li, li, li, .bool])], .one (.c (.row 3 true)), fun x => impl_Shape_bends.f x.1 x.2.1 x.2.2.1 x.2.2.2.1 x.2.2.2.2.1 x.2.2.2.2.2⟩
theorem impl_Shape_bends.ok (k : Nat) : Refl.EntOK Tryz.prog (impl_Shape_bends.e k) := Refl.ent_ok 1000000 k GC (fun k => []) (fun k => trivial) Tryz.func113 (by kernel_rfl) [] (ps := []) (by kernel_rfl) trivial (fun x => by kernel_rfl)

/-! ### impl_Shape_maySpread: function 114 -/

def impl_Shape_maySpread.f (a0_0 : Int) (a0_1 : Int) (a0_2 : Int) (a0_3 : Int) (a0_4 : Int) (a0_5 : Bool) : Option (Bool) := if a0_2 = 0 then (if a0_1 = 0 then (some true) else (if a0_3 = 0 then (some true) else (if a0_3 = 0 then (some (a0_4 == 0)) else (some false)))) else (if a0_3 = 0 then (some (a0_4 == 0)) else (some false))

def impl_Shape_maySpread.e (k : Nat) : Refl.Ent G := ⟨114, [(.agg [li, li, li, li, li, .bool])], .one (.c .bool), fun x => impl_Shape_maySpread.f x.1 x.2.1 x.2.2.1 x.2.2.2.1 x.2.2.2.2.1 x.2.2.2.2.2⟩
theorem impl_Shape_maySpread.ok (k : Nat) : Refl.EntOK Tryz.prog (impl_Shape_maySpread.e k) := Refl.ent_ok 1000000 k GC (fun k => []) (fun k => trivial) Tryz.func114 (by kernel_rfl) [] (ps := []) (by kernel_rfl) trivial (fun x => by kernel_rfl)

/-! ### impl_IsShape: function 60 -/

def impl_IsShape.f (a0_0 : Int) (a0_1 : Int) (a0_2 : Int) (a0_3 : Int) (a0_4 : Int) (a0_5 : Bool) : Option (Bool) := (some (([a0_0] : List Int) : List Int)).bind fun y294 => ((impl_Shape_bends.f a0_0 a0_1 a0_2 a0_3 a0_4 a0_5).bind fun t297 => (if Refl.appLen y294 t297 < 17592186044416 then ((impl_allWithin.f (y294 ++ t297) 0 2).bind fun t303 => (if t303 = true then (if a0_5 = true then ((impl_Shape_maySpread.f a0_0 a0_1 a0_2 a0_3 a0_4 a0_5).bind fun t304 => (some t304)) else (some true)) else (some false))) else (none)))

def impl_IsShape.e (k : Nat) : Refl.Ent G := ⟨60, [(.agg [li, li, li, li, li, .bool])], .one (.c .bool), fun x => impl_IsShape.f x.1 x.2.1 x.2.2.1 x.2.2.2.1 x.2.2.2.2.1 x.2.2.2.2.2⟩
theorem impl_IsShape.ok (k : Nat) : Refl.EntOK Tryz.prog (impl_IsShape.e k) := Refl.ent_ok 1000000 k GC (fun k => [impl_Shape_bends.e k, impl_allWithin.e k, impl_Shape_maySpread.e k]) (fun k => ⟨impl_Shape_bends.ok k, impl_allWithin.ok k, impl_Shape_maySpread.ok k, trivial⟩) Tryz.func60 (by kernel_rfl) [] (ps := []) (by kernel_rfl) trivial (fun x => by kernel_rfl)

/-! ### strconv_Itoa: function 149 -/

/-- The digits, and the pairs of digits, as the library lays them. -/
def itA : ByteArray := ⟨#[48, 49, 50, 51, 52, 53, 54, 55, 56, 57, 97, 98, 99, 100, 101, 102, 103, 104, 105, 106, 107, 108, 109, 110, 111, 112, 113, 114, 115, 116, 117, 118, 119, 120, 121, 122]⟩
def itB : ByteArray := ⟨#[48, 48, 48, 49, 48, 50, 48, 51, 48, 52, 48, 53, 48, 54, 48, 55, 48, 56, 48, 57, 49, 48, 49, 49, 49, 50, 49, 51, 49, 52, 49, 53, 49, 54, 49, 55, 49, 56, 49, 57, 50, 48, 50, 49, 50, 50, 50, 51, 50, 52, 50, 53, 50, 54, 50, 55, 50, 56, 50, 57, 51, 48, 51, 49, 51, 50, 51, 51, 51, 52, 51, 53, 51, 54, 51, 55, 51, 56, 51, 57, 52, 48, 52, 49, 52, 50, 52, 51, 52, 52, 52, 53, 52, 54, 52, 55, 52, 56, 52, 57, 53, 48, 53, 49, 53, 50, 53, 51, 53, 52, 53, 53, 53, 54, 53, 55, 53, 56, 53, 57, 54, 48, 54, 49, 54, 50, 54, 51, 54, 52, 54, 53, 54, 54, 54, 55, 54, 56, 54, 57, 55, 48, 55, 49, 55, 50, 55, 51, 55, 52, 55, 53, 55, 54, 55, 55, 55, 56, 55, 57, 56, 48, 56, 49, 56, 50, 56, 51, 56, 52, 56, 53, 56, 54, 56, 55, 56, 56, 56, 57, 57, 48, 57, 49, 57, 50, 57, 51, 57, 52, 57, 53, 57, 54, 57, 55, 57, 56, 57, 57]⟩
/-- The text of a number below 100. -/
def itT (n : Int) : ByteArray := if n < 10 then itA.extract n.toNat (n + 1).toNat else itB.extract (n * 2).toNat (n * 2 + 2).toNat
set_option maxHeartbeats 4000000 in
set_option maxRecDepth 100000 in
theorem itSmall (n : Int) (w : World) (h0 : 0 ≤ n) (h1 : n < 100) : Calls Tryz.prog 227 #[.int .i64 n] w fun e w' => e = .returned (.string (itT n)) ∧ Drawn0 w w' := by
  have e1 : IntKind.i64.wrap (n + 1) = n + 1 := by simp [IntKind.wrap, IntKind.bits, IntKind.signed]; omega
  have e2 : IntKind.i64.wrap (n * 2) = n * 2 := by simp [IntKind.wrap, IntKind.bits, IntKind.signed]; omega
  have e3 : IntKind.i64.wrap (n * 2 + 2) = n * 2 + 2 := by simp [IntKind.wrap, IntKind.bits, IntKind.signed]; omega
  by_cases h : n < 10
  · have c0 : decide (n < 10) = true := decide_eq_true h
    have c1 : itT n = itA.extract n.toNat (n + 1).toNat := if_pos h
    have b0 : (0 ≤ n) = True := eq_true h0
    have b1 : (n ≤ n + 1) = True := eq_true (by omega)
    have b2 : (n + 1 ≤ 36) = True := eq_true (by omega)
    have b3 : decide (0 ≤ n) = true := decide_eq_true h0
    have b4 : decide (n ≤ n + 1) = true := decide_eq_true (by omega)
    have b5 : decide (n + 1 ≤ 36) = true := decide_eq_true (by omega)
    rw [c1]
    clear h c1 h0 h1
    go_enter Tryz.func227, Tryz.ntmps227
    go_wp2
    go_ret
    exact ⟨by first | rfl | (simp [itA]; done), by repeat (first | exact Drawn0.refl _ | apply Drawn0.step)⟩
  · have c0 : decide (n < 10) = false := decide_eq_false h
    have c1 : itT n = itB.extract (n * 2).toNat (n * 2 + 2).toNat := if_neg h
    have b0 : (0 ≤ n * 2) = True := eq_true (by omega)
    have b1 : (n * 2 ≤ n * 2 + 2) = True := eq_true (by omega)
    have b2 : (n * 2 + 2 ≤ 200) = True := eq_true (by omega)
    have b3 : decide (0 ≤ n * 2) = true := decide_eq_true (by omega)
    have b4 : decide (n * 2 ≤ n * 2 + 2) = true := decide_eq_true (by omega)
    have b5 : decide (n * 2 + 2 ≤ 200) = true := decide_eq_true (by omega)
    rw [c1]
    clear h c1 h0 h1
    go_enter Tryz.func227, Tryz.ntmps227
    go_wp2
    go_ret
    exact ⟨by first | rfl | (simp [itB]; done), by repeat (first | exact Drawn0.refl _ | apply Drawn0.step)⟩
set_option maxHeartbeats 4000000 in
set_option maxRecDepth 100000 in
theorem itFormat (n : Int) (w : World) (h0 : 0 ≤ n) (h1 : n < 100) : Calls Tryz.prog 209 #[.int .i64 n, .int .i64 10] w fun e w' => e = .returned (.string (itT n)) ∧ Drawn0 w w' := by
  have HS := Aside0.mk (fun W => itSmall n W h0 h1)
  have e1 : IntKind.i64.wrap n = n := by simp [IntKind.wrap, IntKind.bits, IntKind.signed]; omega
  have c0 : decide (0 ≤ n) = true := decide_eq_true h0
  have c1 : decide (n < 100) = true := decide_eq_true h1
  clear h0 h1
  go_enter Tryz.func209, Tryz.ntmps209
  go_wp2_with (go_at_call 227; refine (HS.out _).mono ?_; rintro e wq ⟨rfl, ⟨nd, rfl⟩⟩)
  go_ret
  exact ⟨by first | rfl | (simp; done), by repeat (first | exact Drawn0.refl _ | apply Drawn0.step)⟩
set_option maxHeartbeats 4000000 in
set_option maxRecDepth 100000 in
theorem itIn (n : Int) (w : World) (h0 : 0 ≤ n) (h1 : n < 100) : Calls Tryz.prog 188 #[.int .i64 n] w fun e w' => e = .returned (.string (itT n)) ∧ Drawn0 w w' := by
  have HS := Aside0.mk (fun W => itFormat n W h0 h1)
  have e1 : IntKind.i64.wrap n = n := by simp [IntKind.wrap, IntKind.bits, IntKind.signed]; omega
  clear h0 h1
  go_enter Tryz.func188, Tryz.ntmps188
  go_wp2_with (go_at_call 209; refine (HS.out _).mono ?_; rintro e wq ⟨rfl, ⟨nd, rfl⟩⟩)
  go_ret
  exact ⟨by first | rfl | (simp; done), by repeat (first | exact Drawn0.refl _ | apply Drawn0.step)⟩
def strconv_Itoa.f (a0 : Int) : Option ByteArray := if 0 ≤ a0 ∧ a0 < 100 then some (itT a0) else none
set_option maxHeartbeats 4000000 in
set_option maxRecDepth 100000 in
theorem strconv_Itoa.calls (a0 : Int) (r : ByteArray) (w : World) (h : strconv_Itoa.f a0 = some r) : Calls Tryz.prog 149 #[.int .i64 a0] w fun e w' => e = .returned (.string r) ∧ Drawn0 w w' := by
  unfold strconv_Itoa.f at h
  by_cases hn : 0 ≤ a0 ∧ a0 < 100
  · rw [if_pos hn] at h
    obtain rfl := Option.some.inj h
    have HS := Aside0.mk (fun W => itIn a0 W hn.1 hn.2)
    clear h hn
    go_enter Tryz.func149, Tryz.ntmps149
    go_wp2_with (go_at_call 188; refine (HS.out _).mono ?_; rintro e wq ⟨rfl, ⟨nd, rfl⟩⟩)
    go_ret
    exact ⟨by first | rfl | (simp; done), by repeat (first | exact Drawn0.refl _ | apply Drawn0.step)⟩
  · rw [if_neg hn] at h; exact absurd h (by simp)

def strconv_Itoa.e (k : Nat) : Refl.Ent G := ⟨149, [(.c li)], .one (.c .str), fun x => strconv_Itoa.f x⟩
theorem strconv_Itoa.ok (k : Nat) : Refl.EntOK Tryz.prog (strconv_Itoa.e k) := Refl.entOK_hand Tryz.func149 (by kernel_rfl) (fun x => by kernel_rfl) (fun y => ⟨by kernel_rfl, by kernel_rfl, by kernel_rfl, by kernel_rfl⟩) (fun x y h w => (strconv_Itoa.calls x y w h).mono fun e w' hh => ⟨hh.1, hh.2.below⟩)

/-! ### impl_Shape_text: function 98 -/

def impl_Shape_text.l0 : Nat → ByteArray → List Int → Int → Int → Int → Int → Int → Int → Int → Bool → Option (ByteArray)
  | 0, _, _, _, _, _, _, _, _, _, _ => none
  | k + 1, x3, x10, x11, x12, x306000, x306001, x306002, x306003, x306004, x306005 => if x12 < x11 then (if 0 ≤ x12 then (if x12 < (x10.length : Int) then ((strconv_Itoa.f (rd x10 x12)).bind fun t311 => (if x3.size + t311.size ≤ 9223372036854775807 then (impl_Shape_text.l0 k (x3 ++ t311) x10 x11 (wrap64 (x12 + 1)) x306000 x306001 x306002 x306003 x306004 x306005) else (none))) else (none)) else (none)) else (if x306005 = true then (if x3.size + 1 ≤ 9223372036854775807 then (some (x3 ++ (⟨#[115]⟩ : ByteArray))) else (none)) else (some x3))

def impl_Shape_text.f (k : Nat) (a0_0 : Int) (a0_1 : Int) (a0_2 : Int) (a0_3 : Int) (a0_4 : Int) (a0_5 : Bool) : Option (ByteArray) := (strconv_Itoa.f a0_0).bind fun t306 => ((impl_Shape_bends.f a0_0 a0_1 a0_2 a0_3 a0_4 a0_5).bind fun t307 => (impl_Shape_text.l0 k t306 t307 (t307.length : Int) 0 a0_0 a0_1 a0_2 a0_3 a0_4 a0_5))

theorem impl_Shape_text.mono_l : ∀ k, (∀ y0 y1 y2 y3 y4 y5 y6 y7 y8 y9, LeO (impl_Shape_text.l0 k y0 y1 y2 y3 y4 y5 y6 y7 y8 y9) (impl_Shape_text.l0 (k + 1) y0 y1 y2 y3 y4 y5 y6 y7 y8 y9))
  | 0 => fun _ _ _ _ _ _ _ _ _ _ r h => by simp [impl_Shape_text.l0] at h
  | k + 1 => by
    have ih0 := impl_Shape_text.mono_l k
    · intro y0 y1 y2 y3 y4 y5 y6 y7 y8 y9
      unfold impl_Shape_text.l0
      repeat' first
      | (with_reducible exact ih0 _ _ _ _ _ _ _ _ _ _)
      | (with_reducible exact LeO.refl _)
      | (with_reducible exact LeO.none _)
      | (with_reducible refine LeO.ite ?_ ?_)
      | (with_reducible refine LeO.bind ?_ (fun _ => ?_))
      | exact ih0 _ _ _ _ _ _ _ _ _ _
      | exact LeO.none _
      | refine LeO.ite ?_ ?_
      | refine LeO.bind ?_ (fun _ => ?_)

theorem impl_Shape_text.mono : ∀ a0 a1 a2 a3 a4 a5 k, LeO (impl_Shape_text.f k a0 a1 a2 a3 a4 a5) (impl_Shape_text.f (k + 1) a0 a1 a2 a3 a4 a5) := by
  intro a0 a1 a2 a3 a4 a5 k
  have ih0 := impl_Shape_text.mono_l k
  unfold impl_Shape_text.f
  repeat' first
      | (with_reducible exact ih0 _ _ _ _ _ _ _ _ _ _)
      | (with_reducible exact LeO.refl _)
      | (with_reducible exact LeO.none _)
      | (with_reducible refine LeO.ite ?_ ?_)
      | (with_reducible refine LeO.bind ?_ (fun _ => ?_))
      | exact ih0 _ _ _ _ _ _ _ _ _ _
      | exact LeO.none _
      | refine LeO.ite ?_ ?_
      | refine LeO.bind ?_ (fun _ => ?_)

def impl_Shape_text.e (k : Nat) : Refl.Ent G := ⟨98, [(.agg [li, li, li, li, li, .bool])], .one (.c .str), fun x => impl_Shape_text.f k x.1 x.2.1 x.2.2.1 x.2.2.2.1 x.2.2.2.2.1 x.2.2.2.2.2⟩
def impl_Shape_text.pl0 : Refl.Pn G (Refl.PT G (impl_Shape_text.e 0).ol) := ⟨true, 0, ⟨[(3, .v (.c .str)), (10, .v (.c (.row 3 false))), (11, .v (.c li)), (12, .v (.c li)), (1, .box 1 0)], [(1, 23, gL7)]⟩, fun k x => impl_Shape_text.l0 k x.1 x.2.1 x.2.2.1 x.2.2.2.1 x.2.2.2.2.1 x.2.2.2.2.2.1 x.2.2.2.2.2.2.1 x.2.2.2.2.2.2.2.1 x.2.2.2.2.2.2.2.2.1 x.2.2.2.2.2.2.2.2.2⟩
theorem impl_Shape_text.ok (k : Nat) : Refl.EntOK Tryz.prog (impl_Shape_text.e k) := Refl.ent_ok 1000000 k GC (fun k => [strconv_Itoa.e k, impl_Shape_bends.e k]) (fun k => ⟨strconv_Itoa.ok k, impl_Shape_bends.ok k, trivial⟩) Tryz.func98 (by kernel_rfl) [impl_Shape_text.pl0] (ps := [impl_Shape_text.pl0]) (by kernel_rfl) ⟨⟨fun x => by kernel_rfl, fun k x => by kernel_rfl⟩, trivial⟩ (fun x => by kernel_rfl)

/-! ### impl_Shape_with: function 138 -/

def impl_Shape_with.f (a0_0 : Int) (a0_1 : Int) (a0_2 : Int) (a0_3 : Int) (a0_4 : Int) (a0_5 : Bool) (a1 : Int) (a2 : Int) : Option (Int × Int × Int × Int × Int × Bool) := if a1 = 0 then (if a0_5 = true then ((impl_Shape_maySpread.f a2 a0_1 a0_2 a0_3 a0_4 a0_5).bind fun t314 => (some (a2, a0_1, a0_2, a0_3, a0_4, t314))) else (some (a2, a0_1, a0_2, a0_3, a0_4, false))) else (if a1 = 1 then (if a0_5 = true then ((impl_Shape_maySpread.f a0_0 a2 a0_2 a0_3 a0_4 a0_5).bind fun t315 => (some (a0_0, a2, a0_2, a0_3, a0_4, t315))) else (some (a0_0, a2, a0_2, a0_3, a0_4, false))) else (if a1 = 2 then (if a0_5 = true then ((impl_Shape_maySpread.f a0_0 a0_1 a2 a0_3 a0_4 a0_5).bind fun t316 => (some (a0_0, a0_1, a2, a0_3, a0_4, t316))) else (some (a0_0, a0_1, a2, a0_3, a0_4, false))) else (if a1 = 3 then (if a0_5 = true then ((impl_Shape_maySpread.f a0_0 a0_1 a0_2 a2 a0_4 a0_5).bind fun t317 => (some (a0_0, a0_1, a0_2, a2, a0_4, t317))) else (some (a0_0, a0_1, a0_2, a2, a0_4, false))) else (if a0_5 = true then ((impl_Shape_maySpread.f a0_0 a0_1 a0_2 a0_3 a2 a0_5).bind fun t318 => (some (a0_0, a0_1, a0_2, a0_3, a2, t318))) else (some (a0_0, a0_1, a0_2, a0_3, a2, false))))))

def impl_Shape_with.e (k : Nat) : Refl.Ent G := ⟨138, [(.agg [li, li, li, li, li, .bool]), (.c li), (.c li)], .one (.agg [li, li, li, li, li, .bool]), fun x => impl_Shape_with.f x.1 x.2.1 x.2.2.1 x.2.2.2.1 x.2.2.2.2.1 x.2.2.2.2.2.1 x.2.2.2.2.2.2.1 x.2.2.2.2.2.2.2⟩
theorem impl_Shape_with.ok (k : Nat) : Refl.EntOK Tryz.prog (impl_Shape_with.e k) := Refl.ent_ok 1000000 k GC (fun k => [impl_Shape_maySpread.e k]) (fun k => ⟨impl_Shape_maySpread.ok k, trivial⟩) Tryz.func138 (by kernel_rfl) [] (ps := []) (by kernel_rfl) trivial (fun x => by kernel_rfl)

/-! ### impl_ParseShape: function 87 -/

def impl_ParseShape.l0 : Nat → ByteArray → Int → Int → Int → Int → Int → Int → Bool → Option (Int × Int × Int × Int × Int × Bool × Bool)
  | 0, _, _, _, _, _, _, _, _ => none
  | k + 1, x0, x11, x322000, x322001, x322002, x322003, x322004, x322005 => if x11 < 5 then (if 0 ≤ x11 then (if x11 < (x0.size : Int) then ((impl_Shape_with.f x322000 x322001 x322002 x322003 x322004 x322005 x11 (wrap64 ((wrap64 (bt x0 x11)) - 48))).bind fun bt322 => (impl_ParseShape.l0 k x0 (wrap64 (x11 + 1)) bt322.1 bt322.2.1 bt322.2.2.1 bt322.2.2.2.1 bt322.2.2.2.2.1 bt322.2.2.2.2.2)) else (none)) else (none)) else ((impl_IsShape.f x322000 x322001 x322002 x322003 x322004 ((x0.size : Int) == 6)).bind fun t328 => (if t328 = true then ((impl_Shape_text.f k x322000 x322001 x322002 x322003 x322004 ((x0.size : Int) == 6)).bind fun t329 => (if t329.toList = x0.toList then (some (x322000, x322001, x322002, x322003, x322004, ((x0.size : Int) == 6), true)) else (some (0, 0, 0, 0, 0, false, false)))) else (some (0, 0, 0, 0, 0, false, false))))

def impl_ParseShape.f (k : Nat) (a0 : ByteArray) : Option (Int × Int × Int × Int × Int × Bool × Bool) := (impl_within.f (a0.size : Int) 5 6).bind fun t320 => (if t320 = true then (impl_ParseShape.l0 k a0 0 0 0 0 0 0 false) else (some (0, 0, 0, 0, 0, false, false)))

theorem impl_ParseShape.mono_l : ∀ k, (∀ y0 y1 y2 y3 y4 y5 y6 y7, LeO (impl_ParseShape.l0 k y0 y1 y2 y3 y4 y5 y6 y7) (impl_ParseShape.l0 (k + 1) y0 y1 y2 y3 y4 y5 y6 y7))
  | 0 => fun _ _ _ _ _ _ _ _ r h => by simp [impl_ParseShape.l0] at h
  | k + 1 => by
    have ih0 := impl_ParseShape.mono_l k
    · intro y0 y1 y2 y3 y4 y5 y6 y7
      unfold impl_ParseShape.l0
      repeat' first
      | (with_reducible exact ih0 _ _ _ _ _ _ _ _)
      | (with_reducible exact impl_Shape_text.mono _ _ _ _ _ _ _)
      | (with_reducible exact LeO.refl _)
      | (with_reducible exact LeO.none _)
      | (with_reducible refine LeO.ite ?_ ?_)
      | (with_reducible refine LeO.bind ?_ (fun _ => ?_))
      | exact ih0 _ _ _ _ _ _ _ _
      | exact impl_Shape_text.mono _ _ _ _ _ _ _
      | exact LeO.none _
      | refine LeO.ite ?_ ?_
      | refine LeO.bind ?_ (fun _ => ?_)

theorem impl_ParseShape.mono : ∀ a0 k, LeO (impl_ParseShape.f k a0) (impl_ParseShape.f (k + 1) a0) := by
  intro a0 k
  have ih0 := impl_ParseShape.mono_l k
  unfold impl_ParseShape.f
  repeat' first
      | (with_reducible exact ih0 _ _ _ _ _ _ _ _)
      | (with_reducible exact impl_Shape_text.mono _ _ _ _ _ _ _)
      | (with_reducible exact LeO.refl _)
      | (with_reducible exact LeO.none _)
      | (with_reducible refine LeO.ite ?_ ?_)
      | (with_reducible refine LeO.bind ?_ (fun _ => ?_))
      | exact ih0 _ _ _ _ _ _ _ _
      | exact impl_Shape_text.mono _ _ _ _ _ _ _
      | exact LeO.none _
      | refine LeO.ite ?_ ?_
      | refine LeO.bind ?_ (fun _ => ?_)

def impl_ParseShape.e (k : Nat) : Refl.Ent G := ⟨87, [(.c .str)], .tup [(.agg [li, li, li, li, li, .bool]), (.c .bool)], fun x => impl_ParseShape.f k x⟩
def impl_ParseShape.pl0 : Refl.Pn G (Refl.PT G (impl_ParseShape.e 0).ol) := ⟨true, 0, ⟨[(0, .v (.c .str)), (11, .v (.c li)), (4, .box 4 0), (2, .box 2 0), (3, .k (Value.bool false))], [(4, 23, gL7), (2, 23, gL0)]⟩, fun k x => impl_ParseShape.l0 k x.1 x.2.1 x.2.2.1 x.2.2.2.1 x.2.2.2.2.1 x.2.2.2.2.2.1 x.2.2.2.2.2.2.1 x.2.2.2.2.2.2.2⟩
theorem impl_ParseShape.ok (k : Nat) : Refl.EntOK Tryz.prog (impl_ParseShape.e k) := Refl.ent_ok 1000000 k GC (fun k => [impl_within.e k, impl_Shape_with.e k, impl_IsShape.e k, impl_Shape_text.e k]) (fun k => ⟨impl_within.ok k, impl_Shape_with.ok k, impl_IsShape.ok k, impl_Shape_text.ok k, trivial⟩) Tryz.func87 (by kernel_rfl) [impl_ParseShape.pl0] (ps := [impl_ParseShape.pl0]) (by kernel_rfl) ⟨⟨fun x => by kernel_rfl, fun k x => by kernel_rfl⟩, trivial⟩ (fun x => by kernel_rfl)

/-! ### impl_IsOrient: function 61 -/

def impl_IsOrient.f (a0_0 : Int) (a0_1 : Int) : Option (Bool) := (impl_within.f a0_0 0 5).bind fun t331 => (if t331 = true then ((impl_within.f a0_1 0 5).bind fun t332 => (if t332 = true then (some ((wrap64 (Int.tdiv a0_0 2)) != (wrap64 (Int.tdiv a0_1 2)))) else (some false))) else (some false))

def impl_IsOrient.e (k : Nat) : Refl.Ent G := ⟨61, [(.agg [li, li])], .one (.c .bool), fun x => impl_IsOrient.f x.1 x.2⟩
theorem impl_IsOrient.ok (k : Nat) : Refl.EntOK Tryz.prog (impl_IsOrient.e k) := Refl.ent_ok 1000000 k GC (fun k => [impl_within.e k]) (fun k => ⟨impl_within.ok k, trivial⟩) Tryz.func61 (by kernel_rfl) [] (ps := []) (by kernel_rfl) trivial (fun x => by kernel_rfl)

/-! ### strings_IndexByte: function 139 -/

def strings_IndexByte.f (a0 : ByteArray) (a1 : Int) : Option Int := some (Lib.indexByte a0.data.toList a1.toNat.toUInt8)
theorem strings_IndexByte.calls (a0 : ByteArray) (a1 : Int) (r : Int) (w : World) (h : strings_IndexByte.f a0 a1 = some r) :
    Calls Tryz.prog 139 #[.string a0, .int .u8 a1] w fun e w' => e = .returned (.int .i64 r) ∧ Drawn0 w w' := by
  obtain rfl := Option.some.inj h
  exact (Tryz.strings_IndexByte a0 a1 w).mono fun e w' ⟨he, hw⟩ => ⟨he, hw ▸ Drawn0.refl _⟩

def strings_IndexByte.e (k : Nat) : Refl.Ent G := ⟨139, [(.c .str), (.c (.int .u8))], .one (.c li), fun x => strings_IndexByte.f x.1 x.2⟩
theorem strings_IndexByte.ok (k : Nat) : Refl.EntOK Tryz.prog (strings_IndexByte.e k) := Refl.entOK_hand Tryz.func139 (by kernel_rfl) (fun x => by kernel_rfl) (fun y => ⟨by kernel_rfl, by kernel_rfl, by kernel_rfl, by kernel_rfl⟩) (fun x y h w => (strings_IndexByte.calls x.1 x.2 y w h).mono fun e w' hh => ⟨hh.1, hh.2.below⟩)

/-! ### impl_ParseOrient: function 88 -/

def impl_ParseOrient.f (a0 : ByteArray) : Option (Int × Int × Bool) := if (a0.size : Int) = 2 then (if 0 < (a0.size : Int) then ((strings_IndexByte.f (⟨#[117, 100, 108, 114, 102, 98]⟩ : ByteArray) (bt a0 0)).bind fun t334 => (if 1 < (a0.size : Int) then ((strings_IndexByte.f (⟨#[117, 100, 108, 114, 102, 98]⟩ : ByteArray) (bt a0 1)).bind fun t335 => ((impl_IsOrient.f t334 t335).bind fun t337 => (if t337 = true then (some (t334, t335, true)) else (some (0, 0, false))))) else (none))) else (none)) else (some (0, 0, false))

def impl_ParseOrient.e (k : Nat) : Refl.Ent G := ⟨88, [(.c .str)], .tup [(.agg [li, li]), (.c .bool)], fun x => impl_ParseOrient.f x⟩
theorem impl_ParseOrient.ok (k : Nat) : Refl.EntOK Tryz.prog (impl_ParseOrient.e k) := Refl.ent_ok 1000000 k GC (fun k => [strings_IndexByte.e k, impl_IsOrient.e k]) (fun k => ⟨strings_IndexByte.ok k, impl_IsOrient.ok k, trivial⟩) Tryz.func88 (by kernel_rfl) [] (ps := []) (by kernel_rfl) trivial (fun x => by kernel_rfl)

/-! ### impl_Place_text: function 100 -/

def impl_Place_text.f (a0_0 : Int) (a0_1 : Int) (a0_2 : Bool) : Option ByteArray :=
  if 0 ≤ a0_0 ∧ a0_0 < 10 ∧ -1 ≤ a0_1 ∧ a0_1 ≤ 1 then some (plNms.getD a0_0.toNat ⟨#[]⟩ ++ plSide a0_1 ++ (if a0_2 = true then ⟨#[42]⟩ else ⟨#[]⟩)) else none
set_option maxHeartbeats 4000000 in
set_option maxRecDepth 100000 in
theorem plText_walk (k : Nat) (a0_1 : Int) (b : Bool) (w : World) (h1 : k < 10) (h2 : -1 ≤ a0_1) (h3 : a0_1 ≤ 1) :
    Calls Tryz.prog 100 #[.agg #[.int .i64 (k : Int), .int .i64 a0_1, .bool b]] w fun e w' => e = .returned (.string (plNms.getD k ⟨#[]⟩ ++ plSide a0_1 ++ (if b = true then ⟨#[42]⟩ else ⟨#[]⟩))) ∧ Below w.heap.size w w' := by
  have hc : ∀ o, ((w.alloc o).alloc (Obj.cells #[Value.string { data := #[115, 112, 97, 99, 101] }, Value.string { data := #[104, 101, 97, 100] }, Value.string { data := #[101, 121, 101] }, Value.string { data := #[99, 104, 101, 101, 107] }, Value.string { data := #[109, 111, 117, 116, 104] }, Value.string { data := #[99, 104, 105, 110] }, Value.string { data := #[110, 101, 99, 107] }, Value.string { data := #[99, 104, 101, 115, 116] }, Value.string { data := #[119, 97, 105, 115, 116] }, Value.string { data := #[104, 105, 112] }] 167)).cell? ⟨w.heap.size + 1, k, none⟩ = some (.string (plNms.getD k ⟨#[]⟩)) := fun o => by
    have := arr_cell (w.alloc o) _ 167 k _ (plNms_at k h1)
    rwa [World.size_alloc] at this
  have hi : ∀ (W : World) g, (Instr.indexAt 167 (.pointer (some ⟨g, 0, none⟩)) (.int .i64 (k : Int))).run Tryz.prog W = .ok (.pointer (some ⟨g, k, none⟩)) W := by
    intro W g
    rw [run_indexAt_array (h := Tryz.underlying167), if_pos ⟨by omega, by show (k : Int) < 10; omega⟩]
    show Result.ok _ _ = _
    show Result.ok (Value.pointer (some ((⟨g, 0, none⟩ : Addr).add (k * 1)))) W = _
    rw [Nat.mul_one, add_plain]
  have hn := plNms_size k
  generalize plNms.getD k ⟨#[]⟩ = nm at *
  have t0 := decide_eq_true (show nm.size ≤ 9223372036854775807 by omega)
  have u0 := eq_false (show ¬ (9223372036854775807 < nm.size) by omega)
  have t1 := decide_eq_true (show nm.size + 1 ≤ 9223372036854775807 by omega)
  have u1 := eq_false (show ¬ (9223372036854775807 < nm.size + 1) by omega)
  have t2 := decide_eq_true (show nm.size + 1 + 1 ≤ 9223372036854775807 by omega)
  have u2 := eq_false (show ¬ (9223372036854775807 < nm.size + 1 + 1) by omega)
  have h4 : a0_1 = -1 ∨ a0_1 = 0 ∨ a0_1 = 1 := by omega
  have i0 : ∀ W : World, (Instr.index 168 (.agg #[.string { data := #[60] }, .string { data := #[] }, .string { data := #[62] }]) (.int .i64 0)).run Tryz.prog W = .ok (.string { data := #[60] }) W := fun _ => by kernel_rfl
  have i1 : ∀ W : World, (Instr.index 168 (.agg #[.string { data := #[60] }, .string { data := #[] }, .string { data := #[62] }]) (.int .i64 1)).run Tryz.prog W = .ok (.string { data := #[] }) W := fun _ => by kernel_rfl
  have i2 : ∀ W : World, (Instr.index 168 (.agg #[.string { data := #[60] }, .string { data := #[] }, .string { data := #[62] }]) (.int .i64 2)).run Tryz.prog W = .ok (.string { data := #[62] }) W := fun _ => by kernel_rfl
  have r0 : IntKind.i64.wrap 0 = 0 := rfl
  have r1 : IntKind.i64.wrap 1 = 1 := rfl
  have r2 : IntKind.i64.wrap 2 = 2 := rfl
  clear h2 h3 h1 hn
  rcases h4 with rfl | rfl | rfl <;> cases b
  all_goals
    go_enter Tryz.func100, Tryz.ntmps100
    go_wp2
    go_quiet (fail)
    go_wp2
    go_ret
    exact ⟨by simp [plSide, bs_app_nil], by repeat (first | exact Below.refl _ _ | apply pw_below_drewN | apply below_drew1 | apply below_alloc)⟩
theorem impl_Place_text.calls (a0_0 : Int) (a0_1 : Int) (a0_2 : Bool) (r : ByteArray) (w : World) (h : impl_Place_text.f a0_0 a0_1 a0_2 = some r) :
    Calls Tryz.prog 100 #[.agg #[.int .i64 a0_0, .int .i64 a0_1, .bool a0_2]] w fun e w' => e = .returned (.string r) ∧ Below w.heap.size w w' := by
  unfold impl_Place_text.f at h
  split at h
  · rename_i hc
    obtain rfl := Option.some.inj h
    obtain ⟨k, rfl⟩ := Int.eq_ofNat_of_zero_le hc.1
    exact plText_walk k a0_1 a0_2 w (by omega) hc.2.2.1 hc.2.2.2
  · exact absurd h (by simp)

def impl_Place_text.e (k : Nat) : Refl.Ent G := ⟨100, [(.agg [li, li, .bool])], .one (.c .str), fun x => impl_Place_text.f x.1 x.2.1 x.2.2⟩
theorem impl_Place_text.ok (k : Nat) : Refl.EntOK Tryz.prog (impl_Place_text.e k) := Refl.entOK_hand Tryz.func100 (by kernel_rfl) (fun x => by kernel_rfl) (fun y => ⟨by kernel_rfl, by kernel_rfl, by kernel_rfl, by kernel_rfl⟩) (fun x y h w => (impl_Place_text.calls x.1 x.2.1 x.2.2 y w h).mono fun e w' hh => ⟨hh.1, hh.2⟩)

/-! ### impl_IsPlace: function 24 -/

def impl_IsPlace.f (a0_0 : Int) (a0_1 : Int) (a0_2 : Bool) : Option (Bool) := (impl_within.f a0_0 0 9).bind fun t339 => (if t339 = true then ((impl_within.f a0_1 (-1) 1).bind fun t340 => (if t340 = true then (if a0_2 = true then (some (!(a0_0 == 0))) else (some (!false))) else (some false))) else (some false))

def impl_IsPlace.e (k : Nat) : Refl.Ent G := ⟨24, [(.agg [li, li, .bool])], .one (.c .bool), fun x => impl_IsPlace.f x.1 x.2.1 x.2.2⟩
theorem impl_IsPlace.ok (k : Nat) : Refl.EntOK Tryz.prog (impl_IsPlace.e k) := Refl.ent_ok 1000000 k GC (fun k => [impl_within.e k]) (fun k => ⟨impl_within.ok k, trivial⟩) Tryz.func24 (by kernel_rfl) [] (ps := []) (by kernel_rfl) trivial (fun x => by kernel_rfl)

/-! ### impl_PlaceOfCode: function 110 -/

def impl_PlaceOfCode.f (a0 : Int) : Option (Int × Int × Bool × Bool) := (impl_within.f a0 0 59).bind fun t342 => (if t342 = true then ((impl_IsPlace.f (wrap64 (Int.tdiv a0 6)) (wrap64 ((wrap64 (Int.tdiv (Int.tmod a0 6) 2)) - 1)) ((Int.tmod a0 2) == 1)).bind fun t344 => (if t344 = true then (some (wrap64 (Int.tdiv a0 6), wrap64 ((wrap64 (Int.tdiv (Int.tmod a0 6) 2)) - 1), ((Int.tmod a0 2) == 1), true)) else (some (0, 0, false, false)))) else (some (0, 0, false, false)))

def impl_PlaceOfCode.e (k : Nat) : Refl.Ent G := ⟨110, [(.c li)], .tup [(.agg [li, li, .bool]), (.c .bool)], fun x => impl_PlaceOfCode.f x⟩
theorem impl_PlaceOfCode.ok (k : Nat) : Refl.EntOK Tryz.prog (impl_PlaceOfCode.e k) := Refl.ent_ok 1000000 k GC (fun k => [impl_within.e k, impl_IsPlace.e k]) (fun k => ⟨impl_within.ok k, impl_IsPlace.ok k, trivial⟩) Tryz.func110 (by kernel_rfl) [] (ps := []) (by kernel_rfl) trivial (fun x => by kernel_rfl)

/-! ### impl_ParsePlace: function 58 -/

def impl_ParsePlace.l0 : Nat → ByteArray → Int → Option (Int × Int × Bool × Bool)
  | 0, _, _ => none
  | k + 1, x0, x7 => if x7 < 60 then ((impl_PlaceOfCode.f x7).bind fun bt346 => (if bt346.2.2.2 = true then ((impl_Place_text.f bt346.1 bt346.2.1 bt346.2.2.1).bind fun t351 => (if t351.toList = x0.toList then (some (bt346.1, bt346.2.1, bt346.2.2.1, true)) else (impl_ParsePlace.l0 k x0 (wrap64 (x7 + 1))))) else (impl_ParsePlace.l0 k x0 (wrap64 (x7 + 1))))) else (some (0, 0, false, false))

def impl_ParsePlace.f (k : Nat) (a0 : ByteArray) : Option (Int × Int × Bool × Bool) := impl_ParsePlace.l0 k a0 0

theorem impl_ParsePlace.mono_l : ∀ k, (∀ y0 y1, LeO (impl_ParsePlace.l0 k y0 y1) (impl_ParsePlace.l0 (k + 1) y0 y1))
  | 0 => fun _ _ r h => by simp [impl_ParsePlace.l0] at h
  | k + 1 => by
    have ih0 := impl_ParsePlace.mono_l k
    · intro y0 y1
      unfold impl_ParsePlace.l0
      repeat' first
      | (with_reducible exact ih0 _ _)
      | (with_reducible exact LeO.refl _)
      | (with_reducible exact LeO.none _)
      | (with_reducible refine LeO.ite ?_ ?_)
      | (with_reducible refine LeO.bind ?_ (fun _ => ?_))
      | exact ih0 _ _
      | exact LeO.none _
      | refine LeO.ite ?_ ?_
      | refine LeO.bind ?_ (fun _ => ?_)

theorem impl_ParsePlace.mono : ∀ a0 k, LeO (impl_ParsePlace.f k a0) (impl_ParsePlace.f (k + 1) a0) := by
  intro a0 k
  have ih0 := impl_ParsePlace.mono_l k
  unfold impl_ParsePlace.f
  repeat' first
      | (with_reducible exact ih0 _ _)
      | (with_reducible exact LeO.refl _)
      | (with_reducible exact LeO.none _)
      | (with_reducible refine LeO.ite ?_ ?_)
      | (with_reducible refine LeO.bind ?_ (fun _ => ?_))
      | exact ih0 _ _
      | exact LeO.none _
      | refine LeO.ite ?_ ?_
      | refine LeO.bind ?_ (fun _ => ?_)

def impl_ParsePlace.e (k : Nat) : Refl.Ent G := ⟨58, [(.c .str)], .tup [(.agg [li, li, .bool]), (.c .bool)], fun x => impl_ParsePlace.f k x⟩
def impl_ParsePlace.pl0 : Refl.Pn G (Refl.PT G (impl_ParsePlace.e 0).ol) := ⟨true, 0, ⟨[(0, .v (.c .str)), (7, .v (.c li)), (2, .box 2 0), (3, .k (Value.bool false))], [(2, 27, gL1)]⟩, fun k x => impl_ParsePlace.l0 k x.1 x.2⟩
theorem impl_ParsePlace.ok (k : Nat) : Refl.EntOK Tryz.prog (impl_ParsePlace.e k) := Refl.ent_ok 1000000 k GC (fun k => [impl_PlaceOfCode.e k, impl_Place_text.e k]) (fun k => ⟨impl_PlaceOfCode.ok k, impl_Place_text.ok k, trivial⟩) Tryz.func58 (by kernel_rfl) [impl_ParsePlace.pl0] (ps := [impl_ParsePlace.pl0]) (by kernel_rfl) ⟨⟨fun x => by kernel_rfl, fun k x => by kernel_rfl⟩, trivial⟩ (fun x => by kernel_rfl)

theorem impl_ParsePlace.calls (k : Nat) (a0 : ByteArray) (r1 : Int) (r2 : Int) (r3 : Bool) (r4 : Bool) (w : World) (hlw_ : Lw w) (h : impl_ParsePlace.f k a0 = some (r1, r2, r3, r4)) :
    Calls Tryz.prog 58 #[.string a0] w fun e w' => e = .returned (.tuple #[.agg #[.int .i64 r1, .int .i64 r2, .bool r3], .bool r4]) ∧ Below w.heap.size w w' :=
 Refl.EntOK.flat (impl_ParsePlace.ok k) a0 (r1, r2, r3, r4) h (by kernel_rfl) (by kernel_rfl) (by kernel_rfl) (by kernel_rfl) w (hlw := hlw_)

/-! ### impl_hasOnly: function 115 -/

def impl_hasOnly.l0 : Nat → ByteArray → ByteArray → Int → Int → Option (Bool)
  | 0, _, _, _, _ => none
  | k + 1, x0, x1, x7, x8 => if x8 < x7 then (if 0 ≤ x8 then (if x8 < (x0.size : Int) then ((strings_IndexByte.f x1 (bt x0 x8)).bind fun t352 => (if t352 < 0 then (some false) else (impl_hasOnly.l0 k x0 x1 x7 (wrap64 (x8 + 1))))) else (none)) else (none)) else (some true)

def impl_hasOnly.f (k : Nat) (a0 : ByteArray) (a1 : ByteArray) : Option (Bool) := impl_hasOnly.l0 k a0 a1 (a0.size : Int) 0

theorem impl_hasOnly.mono_l : ∀ k, (∀ y0 y1 y2 y3, LeO (impl_hasOnly.l0 k y0 y1 y2 y3) (impl_hasOnly.l0 (k + 1) y0 y1 y2 y3))
  | 0 => fun _ _ _ _ r h => by simp [impl_hasOnly.l0] at h
  | k + 1 => by
    have ih0 := impl_hasOnly.mono_l k
    · intro y0 y1 y2 y3
      unfold impl_hasOnly.l0
      repeat' first
      | (with_reducible exact ih0 _ _ _ _)
      | (with_reducible exact LeO.refl _)
      | (with_reducible exact LeO.none _)
      | (with_reducible refine LeO.ite ?_ ?_)
      | (with_reducible refine LeO.bind ?_ (fun _ => ?_))
      | exact ih0 _ _ _ _
      | exact LeO.none _
      | refine LeO.ite ?_ ?_
      | refine LeO.bind ?_ (fun _ => ?_)

theorem impl_hasOnly.mono : ∀ a0 a1 k, LeO (impl_hasOnly.f k a0 a1) (impl_hasOnly.f (k + 1) a0 a1) := by
  intro a0 a1 k
  have ih0 := impl_hasOnly.mono_l k
  unfold impl_hasOnly.f
  repeat' first
      | (with_reducible exact ih0 _ _ _ _)
      | (with_reducible exact LeO.refl _)
      | (with_reducible exact LeO.none _)
      | (with_reducible refine LeO.ite ?_ ?_)
      | (with_reducible refine LeO.bind ?_ (fun _ => ?_))
      | exact ih0 _ _ _ _
      | exact LeO.none _
      | refine LeO.ite ?_ ?_
      | refine LeO.bind ?_ (fun _ => ?_)

def impl_hasOnly.e (k : Nat) : Refl.Ent G := ⟨115, [(.c .str), (.c .str)], .one (.c .bool), fun x => impl_hasOnly.f k x.1 x.2⟩
def impl_hasOnly.pl0 : Refl.Pn G (Refl.PT G (impl_hasOnly.e 0).ol) := ⟨true, 0, ⟨[(0, .v (.c .str)), (1, .v (.c .str)), (7, .v (.c li)), (8, .v (.c li)), (4, .k (Value.bool false))], []⟩, fun k x => impl_hasOnly.l0 k x.1 x.2.1 x.2.2.1 x.2.2.2⟩
theorem impl_hasOnly.ok (k : Nat) : Refl.EntOK Tryz.prog (impl_hasOnly.e k) := Refl.ent_ok 1000000 k GC (fun k => [strings_IndexByte.e k]) (fun k => ⟨strings_IndexByte.ok k, trivial⟩) Tryz.func115 (by kernel_rfl) [impl_hasOnly.pl0] (ps := [impl_hasOnly.pl0]) (by kernel_rfl) ⟨⟨fun x => by kernel_rfl, fun k x => by kernel_rfl⟩, trivial⟩ (fun x => by kernel_rfl)

/-! ### impl_IsMove: function 62 -/

def impl_IsMove.f (k : Nat) (a0_0 : ByteArray) (a0_1 : Int) : Option (Bool) := if (a0_0.size : Int) ≤ 6 then ((impl_hasOnly.f k a0_0 (⟨#[117, 100, 108, 114, 102, 98]⟩ : ByteArray)).bind fun t354 => (if t354 = true then ((impl_within.f a0_1 1 3).bind fun t355 => (if t355 = true then (if a0_0.toList = ([] : List UInt8) then (some (a0_1 == 1)) else (some true)) else (some false))) else (some false))) else (some false)

theorem impl_IsMove.mono : ∀ a0 a1 k, LeO (impl_IsMove.f k a0 a1) (impl_IsMove.f (k + 1) a0 a1) := by
  intro a0 a1 k
  unfold impl_IsMove.f
  repeat' first
      | (with_reducible exact impl_hasOnly.mono _ _ _)
      | (with_reducible exact LeO.refl _)
      | (with_reducible exact LeO.none _)
      | (with_reducible refine LeO.ite ?_ ?_)
      | (with_reducible refine LeO.bind ?_ (fun _ => ?_))
      | exact impl_hasOnly.mono _ _ _
      | exact LeO.none _
      | refine LeO.ite ?_ ?_
      | refine LeO.bind ?_ (fun _ => ?_)

def impl_IsMove.e (k : Nat) : Refl.Ent G := ⟨62, [(.agg [.str, li])], .one (.c .bool), fun x => impl_IsMove.f k x.1 x.2⟩
theorem impl_IsMove.ok (k : Nat) : Refl.EntOK Tryz.prog (impl_IsMove.e k) := Refl.ent_ok 1000000 k GC (fun k => [impl_hasOnly.e k, impl_within.e k]) (fun k => ⟨impl_hasOnly.ok k, impl_within.ok k, trivial⟩) Tryz.func62 (by kernel_rfl) [] (ps := []) (by kernel_rfl) trivial (fun x => by kernel_rfl)

theorem impl_IsMove.calls (k : Nat) (a0_0 : ByteArray) (a0_1 : Int) (r : Bool) (w : World) (hlw_ : Lw w) (h : impl_IsMove.f k a0_0 a0_1 = some r) :
    Calls Tryz.prog 62 #[.agg #[.string a0_0, .int .i64 a0_1]] w fun e w' => e = .returned (.bool r) ∧ Below w.heap.size w w' :=
 Refl.EntOK.flat (impl_IsMove.ok k) (a0_0, a0_1) r h (by kernel_rfl) (by kernel_rfl) (by kernel_rfl) (by kernel_rfl) w (hlw := hlw_)

/-! ### stringslite_Index: function 183 -/

def stringslite_Index.f (a0 a1 : ByteArray) : Option Int := if a1.size = 1 then some (Lib.indexByte a0.data.toList (a1.data.toList.headD 0)) else none
theorem stringslite_Index.calls (a0 a1 : ByteArray) (r : Int) (w : World) (h : stringslite_Index.f a0 a1 = some r) : Calls Tryz.prog 183 #[.string a0, .string a1] w fun e w' => e = .returned (.int .i64 r) ∧ Drawn0 w w' := by
  unfold stringslite_Index.f at h
  split at h
  · rename_i h1
    obtain rfl := Option.some.inj h
    obtain ⟨c, rfl⟩ : ∃ c, a1 = ⟨#[c]⟩ := by
      obtain ⟨⟨l⟩⟩ := a1
      cases l with
      | nil => exact absurd h1 (by decide)
      | cons c l =>
        cases l with
        | nil => exact ⟨c, rfl⟩
        | cons d l => exact absurd h1 (by simp [ByteArray.size])
    exact (Tryz.stringslite_Index_one a0 c w).mono fun e w' hh => ⟨hh.1, by rw [hh.2]; exact Drawn0.refl _⟩
  · cases h

def stringslite_Index.e (k : Nat) : Refl.Ent G := ⟨183, [(.c .str), (.c .str)], .one (.c li), fun x => stringslite_Index.f x.1 x.2⟩
theorem stringslite_Index.ok (k : Nat) : Refl.EntOK Tryz.prog (stringslite_Index.e k) := Refl.entOK_hand Tryz.func183 (by kernel_rfl) (fun x => by kernel_rfl) (fun y => ⟨by kernel_rfl, by kernel_rfl, by kernel_rfl, by kernel_rfl⟩) (fun x y h w => (stringslite_Index.calls x.1 x.2 y w h).mono fun e w' hh => ⟨hh.1, hh.2.below⟩)

/-! ### stringslite_Cut: function 137 -/

def stringslite_Cut.f (a0 : ByteArray) (a1 : ByteArray) : Option (ByteArray × ByteArray × Bool) := (stringslite_Index.f a0 a1).bind fun t356 => (if t356 ≥ 0 then (if 0 ≤ t356 then (if t356 ≤ (a0.size : Int) then (if 0 ≤ (wrap64 (t356 + (a1.size : Int))) then (if (wrap64 (t356 + (a1.size : Int))) ≤ (a0.size : Int) then (some (a0.extract 0 (t356 : Int).toNat, a0.extract ((wrap64 (t356 + (a1.size : Int))) : Int).toNat a0.size, true)) else (none)) else (none)) else (none)) else (none)) else (some (a0, (⟨#[]⟩ : ByteArray), false)))

def stringslite_Cut.e (k : Nat) : Refl.Ent G := ⟨137, [(.c .str), (.c .str)], .tup [(.c .str), (.c .str), (.c .bool)], fun x => stringslite_Cut.f x.1 x.2⟩
theorem stringslite_Cut.ok (k : Nat) : Refl.EntOK Tryz.prog (stringslite_Cut.e k) := Refl.ent_ok 1000000 k GC (fun k => [stringslite_Index.e k]) (fun k => ⟨stringslite_Index.ok k, trivial⟩) Tryz.func137 (by kernel_rfl) [] (ps := []) (by kernel_rfl) trivial (fun x => by kernel_rfl)

/-! ### strings_Cut: function 86 -/

def strings_Cut.f (a0 : ByteArray) (a1 : ByteArray) : Option (ByteArray × ByteArray × Bool) := (stringslite_Cut.f a0 a1).bind fun bt357 => (some (bt357.1, bt357.2.1, bt357.2.2))

def strings_Cut.e (k : Nat) : Refl.Ent G := ⟨86, [(.c .str), (.c .str)], .tup [(.c .str), (.c .str), (.c .bool)], fun x => strings_Cut.f x.1 x.2⟩
theorem strings_Cut.ok (k : Nat) : Refl.EntOK Tryz.prog (strings_Cut.e k) := Refl.ent_ok 1000000 k GC (fun k => [stringslite_Cut.e k]) (fun k => ⟨stringslite_Cut.ok k, trivial⟩) Tryz.func86 (by kernel_rfl) [] (ps := []) (by kernel_rfl) trivial (fun x => by kernel_rfl)

/-! ### impl_Move_text: function 101 -/

def impl_Move_text.f (a0_0 : ByteArray) (a0_1 : Int) : Option (ByteArray) := if a0_0.toList = ([] : List UInt8) then (some (⟨#[45]⟩ : ByteArray)) else (if a0_1 = 1 then (some a0_0) else (if a0_0.size + 1 ≤ 9223372036854775807 then ((strconv_Itoa.f a0_1).bind fun t361 => (if (a0_0 ++ (⟨#[42]⟩ : ByteArray)).size + t361.size ≤ 9223372036854775807 then (some ((a0_0 ++ (⟨#[42]⟩ : ByteArray)) ++ t361)) else (none))) else (none)))

def impl_Move_text.e (k : Nat) : Refl.Ent G := ⟨101, [(.agg [.str, li])], .one (.c .str), fun x => impl_Move_text.f x.1 x.2⟩
theorem impl_Move_text.ok (k : Nat) : Refl.EntOK Tryz.prog (impl_Move_text.e k) := Refl.ent_ok 1000000 k GC (fun k => [strconv_Itoa.e k]) (fun k => ⟨strconv_Itoa.ok k, trivial⟩) Tryz.func101 (by kernel_rfl) [] (ps := []) (by kernel_rfl) trivial (fun x => by kernel_rfl)

/-! ### impl_decimal: function 140 -/

def decV (s : ByteArray) : Int × Bool := match Lib.atoiAll s.data.toList with
  | .ok v => if Lib.itoa v = s.data.toList then (v, true) else (0, false)
  | _ => (0, false)

def impl_decimal.f (a0 : ByteArray) : Option (Int × Bool) := if a0.size ≤ 281474976710656 then some (decV a0) else none

def impl_decimal.e (k : Nat) : Refl.Ent G := ⟨140, [(.c .str)], .tup [(.c li), (.c .bool)], fun x => impl_decimal.f x⟩
theorem atoi_range {l : List UInt8} {v : Int} (h : Lib.atoiAll l = .ok v) : -9223372036854775808 ≤ v ∧ v ≤ 9223372036854775807 := by
  unfold Lib.atoiAll at h
  cases l with
  | nil => cases h
  | cons c r =>
    simp only [] at h
    split at h
    · cases h
    · cases h
    · rename_i u hu
      split at h
      · cases h
      · split at h
        · cases h
        · rename_i h1 h2
          obtain rfl := Lib.NumEnd.ok.inj h
          split
          · rename_i hn
            have : ¬ 9223372036854775808 < u := fun e => h2 ⟨hn, e⟩
            omega
          · rename_i hn
            have : ¬ 9223372036854775808 ≤ u := fun e => h1 ⟨hn, e⟩
            omega
theorem dec_atoi (s : ByteArray) (hs : s.size ≤ 281474976710656) (w : World) (hl : Lw w) : Calls Tryz.prog 185 #[.string s] w fun e w' => (match Lib.atoiAll s.data.toList with
    | .ok v => e = .returned (.tuple #[.int .i64 v, .nilIface])
    | _ => ∃ n t p, e = .returned (.tuple #[.int .i64 n, .iface t p])) ∧ Below w.heap.size w w' := by
  obtain ⟨_, ⟨t1, p1, v1⟩, ⟨t2, p2, v2⟩, _⟩ := hl
  cases h : Lib.atoiAll s.data.toList with
  | ok v =>
    refine (Tryz.strconv_Atoi_ok s (by omega) v h w).mono ?_
    rintro e w' ⟨rfl, rfl | ⟨t, rfl⟩⟩
    · exact ⟨rfl, Below.refl _ _⟩
    · exact ⟨rfl, Lib.bytesWorld_below _ _ _⟩
  | «syntax» =>
    refine (Tryz.strconv_Atoi_syntax_var s hs h t1 p1 w v1).mono ?_
    rintro e w' ⟨N, rfl, _, _, hb⟩
    exact ⟨⟨_, _, _, rfl⟩, hb⟩
  | range =>
    refine (Tryz.strconv_Atoi_range_var s hs h t2 p2 w v2).mono ?_
    rintro e w' ⟨N, rfl, _, _, hb⟩
    exact ⟨⟨_, _, _, rfl⟩, hb⟩
theorem dec_itoa (n : Int) (h : -9223372036854775808 ≤ n ∧ n ≤ 9223372036854775807) (w : World) (hl : Lw w) : Calls Tryz.prog 149 #[.int .i64 n] w fun e w' => e = .returned (.string ⟨(Lib.itoa n).toArray⟩) ∧ Below w.heap.size w w' := by
  refine (Tryz.strconv_Itoa n h.1 h.2 w hl.2.2.2.1).mono ?_
  rintro e w' ⟨rfl, k, os, rfl⟩
  exact ⟨rfl, Lib.below_grow _ w (Nat.le_refl _) k os⟩
set_option maxHeartbeats 4000000 in
set_option maxRecDepth 100000 in
theorem dec_calls (a0 : ByteArray) (r1 : Int) (r2 : Bool) (w : World) (hl : Lw w) (h : impl_decimal.f a0 = some (r1, r2)) : Calls Tryz.prog 140 #[.string a0] w fun e w' => e = .returned (.tuple #[.int .i64 r1, .bool r2]) ∧ Below w.heap.size w w' := by
  unfold impl_decimal.f at h
  split at h
  · rename_i hs
    have h := Option.some.inj h
    unfold decV at h
    have HA := dec_atoi a0 hs w hl
    cases hv : Lib.atoiAll a0.data.toList with
    | ok v =>
      rw [hv] at h HA
      simp only [] at h HA
      have hr := atoi_range hv
      by_cases e : Lib.itoa v = a0.data.toList
      · rw [if_pos e] at h
        obtain ⟨rfl, rfl⟩ := Prod.mk.inj h
        have ht : (⟨(Lib.itoa v).toArray⟩ : ByteArray) = a0 := by rw [e]
        have HA := Aside0.mk HA
        have HL := Aside0.mk hl
        clear hl h hv
        go_enter Tryz.func140, Tryz.ntmps140
        go_wp2_with (first | (go_at_call 185; refine HA.out.mono ?_; rintro e1 w1 ⟨rfl, hb1⟩; have HB := Aside0.mk hb1; have HI := Aside0.mk (dec_itoa v hr w1 (HL.out.below hb1)); clear hb1) | (go_at_call 149; refine HI.out.mono ?_; rintro e2 w2 ⟨rfl, hb2⟩; rw [ht]; have HC := Aside0.mk ((HB.out).trans (hb2.mono HB.out.size)); clear hb2))
        refine bodyPost_ret (results_list (rs := [.tmp 2, .tmp 3]) rfl (by simp) (.tmp (.tmp .nil))) rfl ?_
        exact ⟨by first | rfl | simp, HC.out⟩
      · rw [if_neg e] at h
        obtain ⟨rfl, rfl⟩ := Prod.mk.inj h
        have hz : ¬ (⟨(Lib.itoa v).toArray⟩ : ByteArray) = a0 := fun e2 => e (by rw [← e2])
        have HI0 := fun w hl => dec_itoa v hr w hl
        generalize (⟨(Lib.itoa v).toArray⟩ : ByteArray) = z at hz HI0
        have hz1 : (z.toList == a0.toList) = false := by
          rw [beq_eq_false_iff_ne]
          intro e2
          apply hz
          rw [← bs_list, ← bs_list] at e2
          obtain ⟨⟨z⟩⟩ := z
          obtain ⟨⟨x⟩⟩ := a0
          simp at e2
          rw [e2]
        have HA := Aside0.mk HA
        have HL := Aside0.mk hl
        have HJ := Aside0.mk HI0
        clear hl h hv e HI0
        go_enter Tryz.func140, Tryz.ntmps140
        go_wp2_with (first | (go_at_call 185; refine HA.out.mono ?_; rintro e1 w1 ⟨rfl, hb1⟩; have HB := Aside0.mk hb1; have HI := Aside0.mk (HJ.out w1 (HL.out.below hb1)); clear hb1) | (go_at_call 149; refine HI.out.mono ?_; rintro e2 w2 ⟨rfl, hb2⟩; have HC := Aside0.mk ((HB.out).trans (hb2.mono HB.out.size)); clear hb2))
        refine bodyPost_ret (results_list (rs := [.tmp 2, .tmp 3]) rfl (by simp) (.tmp (.tmp .nil))) rfl ?_
        exact ⟨by first | rfl | simp, HC.out⟩
    | «syntax» =>
      rw [hv] at h HA
      simp only [] at h HA
      obtain ⟨rfl, rfl⟩ := Prod.mk.inj h
      have HA := Aside0.mk HA
      clear hl h hv
      go_enter Tryz.func140, Tryz.ntmps140
      go_wp2_with (go_at_call 185; refine HA.out.mono ?_; rintro e1 w1 ⟨⟨n1, t1, p1, rfl⟩, hb1⟩; have HB := Aside0.mk hb1; clear hb1)
      refine bodyPost_ret (results_list (rs := [.tmp 2, .tmp 3]) rfl (by simp) (.tmp (.tmp .nil))) rfl ?_
      exact ⟨by first | rfl | simp, HB.out⟩
    | range =>
      rw [hv] at h HA
      simp only [] at h HA
      obtain ⟨rfl, rfl⟩ := Prod.mk.inj h
      have HA := Aside0.mk HA
      clear hl h hv
      go_enter Tryz.func140, Tryz.ntmps140
      go_wp2_with (go_at_call 185; refine HA.out.mono ?_; rintro e1 w1 ⟨⟨n1, t1, p1, rfl⟩, hb1⟩; have HB := Aside0.mk hb1; clear hb1)
      refine bodyPost_ret (results_list (rs := [.tmp 2, .tmp 3]) rfl (by simp) (.tmp (.tmp .nil))) rfl ?_
      exact ⟨by first | rfl | simp, HB.out⟩
  · cases h
theorem impl_decimal.ok (k : Nat) : Refl.EntOK Tryz.prog (impl_decimal.e k) := Refl.entOK_handL Tryz.func140 (by kernel_rfl) (fun x => by kernel_rfl) (fun y => ⟨by kernel_rfl, by kernel_rfl, by kernel_rfl, by kernel_rfl⟩) (fun x y h w hl => dec_calls x y.1 y.2 w hl h)

/-! ### impl_ParseMove: function 89 -/

mutual
def impl_ParseMove.j0 : Nat → ByteArray → ByteArray → Int → Option (ByteArray × Int × Bool)
  | 0, _, _, _ => none
  | k + 1, x0, x367000, x367001 => if x0.toList = ([45] : List UInt8) then (impl_ParseMove.j1 k x0 (⟨#[]⟩ : ByteArray) x367001) else (impl_ParseMove.j1 k x0 x367000 x367001)
def impl_ParseMove.j1 : Nat → ByteArray → ByteArray → Int → Option (ByteArray × Int × Bool)
  | 0, _, _, _ => none
  | k + 1, x0, x367000, x367001 => (impl_IsMove.f k x367000 x367001).bind fun t369 => (if t369 = true then ((impl_Move_text.f x367000 x367001).bind fun t370 => (if t370.toList = x0.toList then (some (x367000, x367001, true)) else (some ((⟨#[]⟩ : ByteArray), 0, false)))) else (some ((⟨#[]⟩ : ByteArray), 0, false)))
end

def impl_ParseMove.f (k : Nat) (a0 : ByteArray) : Option (ByteArray × Int × Bool) := (strings_Cut.f a0 (⟨#[42]⟩ : ByteArray)).bind fun bt363 => (if bt363.2.2 = true then ((impl_decimal.f bt363.2.1).bind fun bt367 => (impl_ParseMove.j0 k a0 bt363.1 bt367.1)) else (impl_ParseMove.j0 k a0 bt363.1 1))

theorem impl_ParseMove.mono_l : ∀ k, (∀ y0 y1 y2, LeO (impl_ParseMove.j0 k y0 y1 y2) (impl_ParseMove.j0 (k + 1) y0 y1 y2)) ∧ (∀ y0 y1 y2, LeO (impl_ParseMove.j1 k y0 y1 y2) (impl_ParseMove.j1 (k + 1) y0 y1 y2))
  | 0 => ⟨fun _ _ _ r h => by simp [impl_ParseMove.j0] at h, fun _ _ _ r h => by simp [impl_ParseMove.j1] at h⟩
  | k + 1 => by
    obtain ⟨ih0, ih1⟩ := impl_ParseMove.mono_l k
    refine ⟨?_, ?_⟩
    · intro y0 y1 y2
      unfold impl_ParseMove.j0
      repeat' first
      | (with_reducible exact ih0 _ _ _)
      | (with_reducible exact ih1 _ _ _)
      | (with_reducible exact impl_IsMove.mono _ _ _)
      | (with_reducible exact LeO.refl _)
      | (with_reducible exact LeO.none _)
      | (with_reducible refine LeO.ite ?_ ?_)
      | (with_reducible refine LeO.bind ?_ (fun _ => ?_))
      | exact ih0 _ _ _
      | exact ih1 _ _ _
      | exact impl_IsMove.mono _ _ _
      | exact LeO.none _
      | refine LeO.ite ?_ ?_
      | refine LeO.bind ?_ (fun _ => ?_)
    · intro y0 y1 y2
      unfold impl_ParseMove.j1
      repeat' first
      | (with_reducible exact ih0 _ _ _)
      | (with_reducible exact ih1 _ _ _)
      | (with_reducible exact impl_IsMove.mono _ _ _)
      | (with_reducible exact LeO.refl _)
      | (with_reducible exact LeO.none _)
      | (with_reducible refine LeO.ite ?_ ?_)
      | (with_reducible refine LeO.bind ?_ (fun _ => ?_))
      | exact ih0 _ _ _
      | exact ih1 _ _ _
      | exact impl_IsMove.mono _ _ _
      | exact LeO.none _
      | refine LeO.ite ?_ ?_
      | refine LeO.bind ?_ (fun _ => ?_)

theorem impl_ParseMove.mono : ∀ a0 k, LeO (impl_ParseMove.f k a0) (impl_ParseMove.f (k + 1) a0) := by
  intro a0 k
  obtain ⟨ih0, ih1⟩ := impl_ParseMove.mono_l k
  unfold impl_ParseMove.f
  repeat' first
      | (with_reducible exact ih0 _ _ _)
      | (with_reducible exact ih1 _ _ _)
      | (with_reducible exact impl_IsMove.mono _ _ _)
      | (with_reducible exact LeO.refl _)
      | (with_reducible exact LeO.none _)
      | (with_reducible refine LeO.ite ?_ ?_)
      | (with_reducible refine LeO.bind ?_ (fun _ => ?_))
      | exact ih0 _ _ _
      | exact ih1 _ _ _
      | exact impl_IsMove.mono _ _ _
      | exact LeO.none _
      | refine LeO.ite ?_ ?_
      | refine LeO.bind ?_ (fun _ => ?_)

def impl_ParseMove.e (k : Nat) : Refl.Ent G := ⟨89, [(.c .str)], .tup [(.agg [.str, li]), (.c .bool)], fun x => impl_ParseMove.f k x⟩
def impl_ParseMove.pj0 : Refl.Pn G (Refl.PT G (impl_ParseMove.e 0).ol) := ⟨false, 5, ⟨[(0, .v (.c .str)), (7, .box 7 0), (2, .box 2 0), (3, .k (Value.bool false))], [(7, 29, gL2), (2, 29, gL3)]⟩, fun k x => impl_ParseMove.j0 k x.1 x.2.1 x.2.2⟩
def impl_ParseMove.pj1 : Refl.Pn G (Refl.PT G (impl_ParseMove.e 0).ol) := ⟨false, 7, ⟨[(0, .v (.c .str)), (7, .box 7 0), (2, .box 2 0), (3, .k (Value.bool false))], [(7, 29, gL2), (2, 29, gL3)]⟩, fun k x => impl_ParseMove.j1 k x.1 x.2.1 x.2.2⟩
theorem impl_ParseMove.ok (k : Nat) : Refl.EntOK Tryz.prog (impl_ParseMove.e k) := Refl.ent_ok 1000000 k GC (fun k => [strings_Cut.e k, impl_decimal.e k, impl_IsMove.e k, impl_Move_text.e k]) (fun k => ⟨strings_Cut.ok k, impl_decimal.ok k, impl_IsMove.ok k, impl_Move_text.ok k, trivial⟩) Tryz.func89 (by kernel_rfl) [impl_ParseMove.pj0, impl_ParseMove.pj1] (ps := [impl_ParseMove.pj0, impl_ParseMove.pj1]) (by kernel_rfl) ⟨⟨fun x => by kernel_rfl, fun k x => by kernel_rfl⟩, ⟨fun x => by kernel_rfl, fun k x => by kernel_rfl⟩, trivial⟩ (fun x => by kernel_rfl)

/-! ### impl_readHand: function 84 -/

def rh.l0 : Nat → List ByteArray → Int → Bool → Bool → Bool → Bool → Int → Int → Int → Int → Int → Int → Bool → Int → Int → Int → Int → Bool → ByteArray → Int → Option (Int × Int × Int × Int × Int × Bool × Int × Int × Int × Int × Bool × ByteArray × Int × Int × Int)
  | 0, _, _, _, _, _, _, _, _, _, _, _, _, _, _, _, _, _, _, _, _ => none
  | k + 1, l, n, b0, b1, b2, b3, i, h0, h1, h2, h3, h4, h5, h6, h7, h8, h9, h10, h11, h12 => if i < 4 then (if 0 ≤ i then (if i < 4 then (if rdOf false [b0, b1, b2, b3] i = true then (if 0 ≤ i then (if i < (l.length : Int) then (rh.l0 k l (wrap64 (n + (wrap64 (((rdOf ByteArray.empty l i).size : Int) + 1)))) b0 b1 b2 b3 (wrap64 (i + 1)) h0 h1 h2 h3 h4 h5 h6 h7 h8 h9 h10 h11 h12) else (none)) else (none)) else (some (0, 0, 0, 0, 0, false, 0, 0, 0, 0, false, (⟨#[]⟩ : ByteArray), 0, wrap64 (3 + i), n))) else (none)) else (none)) else (some (h0, h1, h2, h3, h4, h5, h6, h7, h8, h9, h10, h11, h12, 0, 0))

def impl_readHand.f (k : Nat) (a0 : ByteArray) : Option (Int × Int × Int × Int × Int × Bool × Int × Int × Int × Int × Bool × ByteArray × Int × Int × Int) := (strings_Split.f a0 (⟨#[47]⟩ : ByteArray)).bind fun l => (if (l.length : Int) = 4 then (if (0 : Int) < (l.length : Int) then ((impl_ParseShape.f k (rdOf ByteArray.empty l 0)).bind fun bs => ((if (1 : Int) < (l.length : Int) then ((impl_ParseOrient.f (rdOf ByteArray.empty l 1)).bind fun bo => ((if (2 : Int) < (l.length : Int) then ((impl_ParsePlace.f k (rdOf ByteArray.empty l 2)).bind fun bp => ((if (3 : Int) < (l.length : Int) then ((impl_ParseMove.f k (rdOf ByteArray.empty l 3)).bind fun bm => (rh.l0 k l 0 bs.2.2.2.2.2.2 bo.2.2 bp.2.2.2 bm.2.2 0 bs.1 bs.2.1 bs.2.2.1 bs.2.2.2.1 bs.2.2.2.2.1 bs.2.2.2.2.2.1 bo.1 bo.2.1 bp.1 bp.2.1 bp.2.2.1 bm.1 bm.2.1)) else (none)))) else (none)))) else (none)))) else (none)) else (some (0, 0, 0, 0, 0, false, 0, 0, 0, 0, false, (⟨#[]⟩ : ByteArray), 0, 2, 0)))

theorem rh.mono_l : ∀ k l n b0 b1 b2 b3 i h0 h1 h2 h3 h4 h5 h6 h7 h8 h9 h10 h11 h12, LeO (rh.l0 k l n b0 b1 b2 b3 i h0 h1 h2 h3 h4 h5 h6 h7 h8 h9 h10 h11 h12) (rh.l0 (k + 1) l n b0 b1 b2 b3 i h0 h1 h2 h3 h4 h5 h6 h7 h8 h9 h10 h11 h12)
  | 0 => by intros; intro r h; simp [rh.l0] at h
  | k + 1 => by
    have ih := rh.mono_l k
    intro l n b0 b1 b2 b3 i h0 h1 h2 h3 h4 h5 h6 h7 h8 h9 h10 h11 h12
    unfold rh.l0
    repeat' first
    | (with_reducible exact ih _ _ _ _ _ _ _ _ _ _ _ _ _ _ _ _ _ _ _ _)
    | exact LeO.refl _
    | exact LeO.none _
    | refine LeO.ite ?_ ?_

theorem impl_readHand.mono : ∀ a0 k, LeO (impl_readHand.f k a0) (impl_readHand.f (k + 1) a0) := by
  intro a0 k
  unfold impl_readHand.f
  repeat' first
  | (with_reducible exact impl_ParseShape.mono _ _)
  | (with_reducible exact impl_ParsePlace.mono _ _)
  | (with_reducible exact impl_ParseMove.mono _ _)
  | (with_reducible exact rh.mono_l _ _ _ _ _ _ _ _ _ _ _ _ _ _ _ _ _ _ _ _ _)
  | exact LeO.refl _
  | exact LeO.none _
  | refine LeO.ite ?_ ?_
  | refine LeO.bind ?_ (fun _ => ?_)

def impl_readHand.e (k : Nat) : Refl.Ent G := ⟨84, [(.c .str)], .tup [(.agg gL4), (.c li), (.c li)], fun x => impl_readHand.f k x⟩
def impl_readHand.pl0 : Refl.Pn G (Refl.PT G (impl_readHand.e 0).ol) := ⟨true, 0, ⟨[(5, .v (.c (.row 9 false))), (8, .v (.c li)), (53, .v (.agg [.bool, .bool, .bool, .bool])), (54, .v (.c li)), (6, .box 6 0), (2, .box 2 0), (3, .k (Value.int IntKind.i64 0)), (4, .k (Value.int IntKind.i64 0))], [(6, 31, [.l (.int .i64), .l (.int .i64), .l (.int .i64), .l (.int .i64), .l (.int .i64), .l .bool, .l (.int .i64), .l (.int .i64), .l (.int .i64), .l (.int .i64), .l .bool, .l .str, .l (.int .i64)]), (2, 31, [zk .i64, zk .i64, zk .i64, zk .i64, zk .i64, zkb, zk .i64, zk .i64, zk .i64, zk .i64, zkb, zks, zk .i64])]⟩, fun k x => rh.l0 k x.1 x.2.1 x.2.2.1 x.2.2.2.1 x.2.2.2.2.1 x.2.2.2.2.2.1 x.2.2.2.2.2.2.1 x.2.2.2.2.2.2.2.1 x.2.2.2.2.2.2.2.2.1 x.2.2.2.2.2.2.2.2.2.1 x.2.2.2.2.2.2.2.2.2.2.1 x.2.2.2.2.2.2.2.2.2.2.2.1 x.2.2.2.2.2.2.2.2.2.2.2.2.1 x.2.2.2.2.2.2.2.2.2.2.2.2.2.1 x.2.2.2.2.2.2.2.2.2.2.2.2.2.2.1 x.2.2.2.2.2.2.2.2.2.2.2.2.2.2.2.1 x.2.2.2.2.2.2.2.2.2.2.2.2.2.2.2.2.1 x.2.2.2.2.2.2.2.2.2.2.2.2.2.2.2.2.2.1 x.2.2.2.2.2.2.2.2.2.2.2.2.2.2.2.2.2.2.1 x.2.2.2.2.2.2.2.2.2.2.2.2.2.2.2.2.2.2.2⟩
theorem impl_readHand.ok (k : Nat) : Refl.EntOK Tryz.prog (impl_readHand.e k) := Refl.ent_ok 1000000 k GC (fun k => [strings_Split.e k, impl_ParseShape.e k, impl_ParseOrient.e k, impl_ParsePlace.e k, impl_ParseMove.e k]) (fun k => ⟨strings_Split.ok k, impl_ParseShape.ok k, impl_ParseOrient.ok k, impl_ParsePlace.ok k, impl_ParseMove.ok k, trivial⟩) Tryz.func84 (by kernel_rfl) [impl_readHand.pl0] (ps := [impl_readHand.pl0]) (by kernel_rfl) ⟨⟨fun x => by kernel_rfl, fun k x => by kernel_rfl⟩, trivial⟩ (fun x => by kernel_rfl)

/-! ### impl_OldPlace: function 21 -/

section
open Go.Maps Go.WideElems Go.WideMaps
/-- The place that an old name stands for. -/
def oldNm (a : ByteArray) : ByteArray :=
  if a.toList = [97, 105, 114] then ⟨#[115, 112, 97, 99, 101]⟩ else if a.toList = [98, 114, 111, 119] then ⟨#[101, 121, 101]⟩ else if a.toList = [102, 97, 99, 101] then ⟨#[109, 111, 117, 116, 104]⟩ else if a.toList = [98, 111, 100, 121] then ⟨#[99, 104, 101, 115, 116, 42]⟩ else ⟨#[]⟩
def oldD : DataW Unit := (((((DataW.map []).put (.string [98, 111, 100, 121]) (.lit (.string [99, 104, 101, 115, 116, 42]))).put (.string [102, 97, 99, 101]) (.lit (.string [109, 111, 117, 116, 104]))).put (.string [98, 114, 111, 119]) (.lit (.string [101, 121, 101]))).put (.string [97, 105, 114]) (.lit (.string [115, 112, 97, 99, 101])))
theorem oldD_at (a s : ByteArray) (h : oldD.atKey (.string a.data.toList) (.lit (.string [])) = .lit (.string s.data.toList)) : s = oldNm a := by
  have e : oldD.atKey (.string a.data.toList) (.lit (.string [])) = .lit (.string (oldNm a).data.toList) := by
    rw [bs_list a]
    unfold oldD oldNm
    generalize a.toList = l
    have isk : ∀ l : List UInt8, WideAt.IsKeyLit (.string l) := fun l => trivial
    have i0 : IsMap (DataW.map [] : DataW Unit) := isMap_empty
    split
    · subst l; rw [atKey_put_same (by repeat (first | exact i0 | apply IsMap.put)) (isk _)]
    · rename_i h1
      rw [atKey_put_other (by simpa using h1)]
      split
      · subst l; rw [atKey_put_same (by repeat (first | exact i0 | apply IsMap.put)) (isk _)]
      · rename_i h2
        rw [atKey_put_other (by simpa using h2)]
        split
        · subst l; rw [atKey_put_same (by repeat (first | exact i0 | apply IsMap.put)) (isk _)]
        · rename_i h3
          rw [atKey_put_other (by simpa using h3)]
          split
          · subst l; rw [atKey_put_same i0 (isk _)]
          · rename_i h4
            rw [atKey_put_other (by simpa using h4)]
            rfl
  rw [e] at h
  simp only [DataW.lit.injEq, Lit.string.injEq] at h
  obtain ⟨⟨l⟩⟩ := s
  generalize oldNm a = b at h
  obtain ⟨⟨m⟩⟩ := b
  simp at h
  rw [h]

theorem law_str : Keyed Tryz.prog 9 := string_keyed Tryz.underlying9
def impl_OldPlace.f (k : Nat) (a0 : ByteArray) : Option (Int × Int × Bool × Bool) := if a0.size ≤ 9223372036854775807 then impl_ParsePlace.f k (oldNm a0) else none
theorem impl_OldPlace.mono : ∀ a0 k, LeO (impl_OldPlace.f k a0) (impl_OldPlace.f (k + 1) a0) := by
  intro a0 k
  unfold impl_OldPlace.f
  exact LeO.ite (impl_ParsePlace.mono _ _) (LeO.none _)
set_option maxHeartbeats 4000000 in
set_option maxRecDepth 100000 in
theorem impl_OldPlace.calls (k : Nat) (a0 : ByteArray) (t142 : Int) (t143 : Int) (t144 : Bool) (t145 : Bool) (w : World) (hlw_ : Lw w) (h : impl_OldPlace.f k a0 = some (t142, t143, t144, t145)) :
    Calls Tryz.prog 21 #[.string a0] w fun e w' => e = .returned (.tuple #[.agg #[.int .i64 t142, .int .i64 t143, .bool t144], .bool t145]) ∧ Below w.heap.size w w' := by
  have ha : a0.size ≤ maxLen := by
    unfold impl_OldPlace.f at h
    split at h
    · unfold maxLen; assumption
    · cases h
  have h : impl_ParsePlace.f k (oldNm a0) = some (t142, t143, t144, t145) := by
    unfold impl_OldPlace.f at h
    rwa [if_pos (by unfold maxLen at ha; exact ha)] at h
  have hu23 := Tryz.underlying27
  have HB := Aside0.mk (Below.refl w.heap.size w)
  have A2 := Aside0.mk h
  have HLW := Aside0.mk hlw_
  clear hlw_
  clear h
  go_enter Tryz.func21, Tryz.ntmps21
  go_wp2_with (first
    | ((with_reducible refine gate_dst (N := 2) rfl ?_); refine box_event ?hg (N := 2) ?hd (cs := #[.int .i64 0, .int .i64 0, .bool false]) (t := 27) ?hr ?_; (case hd => rfl); (case hg => rfl); (case hr => first | (go_simp; done) | (go_simp; rfl)); intro gb141 hg w3 hbox hb; have n0_ := Aside0.mk (below_step (by repeat (first | (with_reducible first | exact HB.out | apply below_alloc | apply pw_below_drewN | apply below_drew1) | exact HB.out)) hb); have n1_ := Aside0.mk (hbox); have n2_ := Aside0.mk ((by rw [hg]; exact (below_size (by repeat (first | (with_reducible first | exact HB.out | apply below_alloc | apply pw_below_drewN | apply below_drew1) | exact HB.out))) : w.heap.size ≤ gb141)); clear HB; have HB := n0_; have BK141 := n1_; have GE141 := n2_; clear n0_ n1_ n2_; clear hb hbox hg)
    | (refine wpList_makeMap_own _ rfl 98 rfl 9 (plainElem (H := Unit) Tryz.prog 9) ?_; intro gm w5 hgm hown0 hb; have hown := Aside0.mk hown0; have n0_ := Aside0.mk (blk_below (g := gb141) BK141.out hb); have n1_ := Aside0.mk (below_step HB.out hb); have n2_ := Aside0.mk (show gb141 < gm by rw [hgm]; exact blk_lt BK141.out); clear hown0 BK141 HB hb hgm; have BK141 := n0_; have HB := n1_; have GM := n2_; clear n0_ n1_ n2_)
    | (refine wpList_insert_own _ rfl _ _ _ 98 rfl 9 9 law_str Tryz.underlying98 (plainElem (H := Unit) Tryz.prog 9) _ _ _ rfl hown.out (by unfold maxLen; omega) _ _ _ rfl rfl (keyOf_string_mk Tryz.underlying9 (by decide)) _ _ (plainElem_string Tryz.underlying9 (by decide)) ?_; intro w6 hown1 hg1; have n0_ := Aside0.mk (blk_grown BK141.out hg1 (by have := GM.out; intro e; cases e; omega)); have n1_ := Aside0.mk (pw_below_grown HB.out _ (below_size HB.out) hg1 (fun k hk => by cases hk; have := GM.out; have := GE141.out; omega)); have n2_ := Aside0.mk hown1; clear hown hown1 BK141 HB hg1; have BK141 := n0_; have HB := n1_; have hown := n2_; clear n0_ n1_ n2_)
    | (refine wpList_lookup_own_str _ rfl _ _ 98 rfl 9 9 law_str Tryz.underlying98 Tryz.underlying9 (by kernel_rfl) _ _ _ rfl hown.out _ _ rfl (keyOf_string_mk Tryz.underlying9 ha) ?_; intro s hs; obtain rfl := oldD_at a0 s hs; clear hs)
    | ((with_reducible refine gate_callee (f := 58) rfl ?_); refine goesL_ (some 10) rfl rfl Tryz.func58 (by kernel_rfl) rfl #[.string (oldNm a0)] rfl (by (try simp only [List.map_toArray, List.map_cons, List.map_nil]); first | done | rfl | (simp only [List.length_drop, List.length_take]; rfl)) ?_; (with_reducible refine (impl_ParsePlace.calls k (oldNm a0) t142 t143 t144 t145 _ (HLW.out.below HB.out) A2.out).mono ?_); rintro e w4 ⟨rfl, hb⟩; refine ⟨_, rfl, ?_⟩; have n0_ := Aside0.mk (blk_below (g := gb141) (o := .cells #[.int .i64 0, .int .i64 0, .bool false] 27 (0, 0)) (by (with_reducible repeat (first | refine blk_drewN ?_ _ | refine blk_drew ?_ | refine blk_alloc ?_ _)); exact BK141.out) hb); have n1_ := Aside0.mk (below_step (by repeat (first | (with_reducible first | exact HB.out | apply below_alloc | apply pw_below_drewN | apply below_drew1 | refine below_set ?_ GE141.out) | exact HB.out)) hb); clear BK141; clear HB; have BK141 := n0_; have HB := n1_; clear n0_ n1_; (try clear hb); have hcz5_0 : w4.cell? ⟨gb141, 0, none⟩ = some (.int .i64 0) := (blk_cell BK141.out 0).trans rfl; have hcz5_1 : w4.cell? ⟨gb141, 1, none⟩ = some (.int .i64 0) := (blk_cell BK141.out 1).trans rfl; have hcz5_2 : w4.cell? ⟨gb141, 2, none⟩ = some (.bool false) := (blk_cell BK141.out 2).trans rfl; have hfz5_0 := blk_frozen BK141.out 0; have hfz5_1 := blk_frozen BK141.out 1; have hfz5_2 := blk_frozen BK141.out 2))
  refine bodyPost_ret (results_ct rfl _ _ gb141 27 #[.int .i64 t142, .int .i64 t143, .bool t144] (0, 0) _ rfl (by (with_reducible repeat (first | refine blk_drewN ?_ _ | refine blk_drew ?_ | refine blk_alloc ?_ _)); refine blk_put (cs := #[.int .i64 t142, .int .i64 t143, .bool false]) ?_ 2 _ rfl; (with_reducible repeat (first | refine blk_drewN ?_ _ | refine blk_drew ?_ | refine blk_alloc ?_ _)); refine blk_put (cs := #[.int .i64 t142, .int .i64 0, .bool false]) ?_ 1 _ rfl; (with_reducible repeat (first | refine blk_drewN ?_ _ | refine blk_drew ?_ | refine blk_alloc ?_ _)); refine blk_put (cs := #[.int .i64 0, .int .i64 0, .bool false]) ?_ 0 _ rfl; (with_reducible repeat (first | refine blk_drewN ?_ _ | refine blk_drew ?_ | refine blk_alloc ?_ _)); exact BK141.out) Tryz.underlying27 rfl (by kernel_rfl)) rfl ?_
  exact ⟨by first | rfl | (simp [errW_none, errW_some] <;> rfl) | (simp [*, errW_none, errW_some] <;> rfl), by repeat (first | (with_reducible first | exact HB.out | apply below_alloc | apply pw_below_drewN | apply below_drew1 | refine below_set ?_ GE141.out) | exact HB.out)⟩
end

def impl_OldPlace.e (k : Nat) : Refl.Ent G := ⟨21, [(.c .str)], .tup [(.agg [li, li, .bool]), (.c .bool)], fun x => impl_OldPlace.f k x⟩
theorem impl_OldPlace.ok (k : Nat) : Refl.EntOK Tryz.prog (impl_OldPlace.e k) := Refl.entOK_handL Tryz.func21 (by kernel_rfl) (fun x => by kernel_rfl) (fun y => ⟨by kernel_rfl, by kernel_rfl, by kernel_rfl, by kernel_rfl⟩) (fun x y h w hl => impl_OldPlace.calls k x y.1 y.2.1 y.2.2.1 y.2.2.2 w hl h)

/-! ### impl_imported: function 47 -/

def itF : Nat → ByteArray → List ByteArray
  | 0, r => [r]
  | n + 1, r => if Lib.indexByte r.data.toList 59 < 0 then [r] else r.extract 0 (Lib.indexByte r.data.toList 59).toNat :: itF n (r.extract ((Lib.indexByte r.data.toList 59).toNat + 1) r.size)

def itP (s : ByteArray) : List ByteArray := itF s.size s

abbrev HdI : Type := (Int × Int × Int × Int × Int × Bool × Int × Int × Int × Int × Bool × ByteArray × Int) × Int
/-- A piece that says nothing. -/

def imN (z : HdI) (x : ByteArray) : Option HdI := if x.toList = [] then some (z.1, Go.bits .or .i64 z.2 0) else some (z.1, Go.bits .or .i64 z.2 16)
/-- What one piece does. -/

def imB (k : Nat) (z : HdI) (x : ByteArray) : Option HdI := (strings_Cut.f x (⟨#[61]⟩ : ByteArray)).bind fun c => (if c.1.toList = [83] then ((impl_ParseShape.f k c.2.1).bind fun t => (if t.2.2.2.2.2.2 = true then (some (((t.1, t.2.1, t.2.2.1, t.2.2.2.1, t.2.2.2.2.1, t.2.2.2.2.2.1, z.1.2.2.2.2.2.2.1, z.1.2.2.2.2.2.2.2.1, z.1.2.2.2.2.2.2.2.2.1, z.1.2.2.2.2.2.2.2.2.2.1, z.1.2.2.2.2.2.2.2.2.2.2.1, z.1.2.2.2.2.2.2.2.2.2.2.2.1, z.1.2.2.2.2.2.2.2.2.2.2.2.2), Go.bits .or .i64 z.2 1))) else (imN z x))) else (if c.1.toList = [79] then ((impl_ParseOrient.f c.2.1).bind fun t => (if t.2.2 = true then (some (((z.1.1, z.1.2.1, z.1.2.2.1, z.1.2.2.2.1, z.1.2.2.2.2.1, z.1.2.2.2.2.2.1, t.1, t.2.1, z.1.2.2.2.2.2.2.2.2.1, z.1.2.2.2.2.2.2.2.2.2.1, z.1.2.2.2.2.2.2.2.2.2.2.1, z.1.2.2.2.2.2.2.2.2.2.2.2.1, z.1.2.2.2.2.2.2.2.2.2.2.2.2), Go.bits .or .i64 z.2 2))) else (imN z x))) else (if c.1.toList = [80] then ((impl_ParsePlace.f k c.2.1).bind fun t => (if t.2.2.2 = true then (if t.2.2.2 = true then (some (((z.1.1, z.1.2.1, z.1.2.2.1, z.1.2.2.2.1, z.1.2.2.2.2.1, z.1.2.2.2.2.2.1, z.1.2.2.2.2.2.2.1, z.1.2.2.2.2.2.2.2.1, t.1, t.2.1, t.2.2.1, z.1.2.2.2.2.2.2.2.2.2.2.2.1, z.1.2.2.2.2.2.2.2.2.2.2.2.2), Go.bits .or .i64 z.2 4))) else (imN z x)) else ((impl_OldPlace.f k c.2.1).bind fun u => (if u.2.2.2 = true then (some (((z.1.1, z.1.2.1, z.1.2.2.1, z.1.2.2.2.1, z.1.2.2.2.2.1, z.1.2.2.2.2.2.1, z.1.2.2.2.2.2.2.1, z.1.2.2.2.2.2.2.2.1, u.1, u.2.1, u.2.2.1, z.1.2.2.2.2.2.2.2.2.2.2.2.1, z.1.2.2.2.2.2.2.2.2.2.2.2.2), Go.bits .or .i64 z.2 4))) else (imN z x))))) else (if c.1.toList = [77] then ((impl_ParseMove.f k c.2.1).bind fun t => (if t.2.2 = true then (some (((z.1.1, z.1.2.1, z.1.2.2.1, z.1.2.2.2.1, z.1.2.2.2.2.1, z.1.2.2.2.2.2.1, z.1.2.2.2.2.2.2.1, z.1.2.2.2.2.2.2.2.1, z.1.2.2.2.2.2.2.2.2.1, z.1.2.2.2.2.2.2.2.2.2.1, z.1.2.2.2.2.2.2.2.2.2.2.1, t.1, t.2.1), Go.bits .or .i64 z.2 8))) else (imN z x))) else (imN z x)))))

def imF (k : Nat) : List ByteArray → HdI → Option HdI
  | [], z => some z
  | x :: xs, z => (imB k z x).bind (imF k xs)

def impl_imported.g (k : Nat) (s : ByteArray) : Option (Int × Int × Int × Int × Int × Bool × Int × Int × Int × Int × Bool × ByteArray × Int × Int) := (impl_readHand.f k (⟨#[48, 48, 48, 48, 48, 47, 102, 117, 47, 115, 112, 97, 99, 101, 47, 45]⟩ : ByteArray)).bind fun t => ((imF k (itP s) ((t.1, t.2.1, t.2.2.1, t.2.2.2.1, t.2.2.2.2.1, t.2.2.2.2.2.1, t.2.2.2.2.2.2.1, t.2.2.2.2.2.2.2.1, t.2.2.2.2.2.2.2.2.1, t.2.2.2.2.2.2.2.2.2.1, t.2.2.2.2.2.2.2.2.2.2.1, t.2.2.2.2.2.2.2.2.2.2.2.1, t.2.2.2.2.2.2.2.2.2.2.2.2.1), 0)).bind fun z => some (z.1.1, z.1.2.1, z.1.2.2.1, z.1.2.2.2.1, z.1.2.2.2.2.1, z.1.2.2.2.2.2.1, z.1.2.2.2.2.2.2.1, z.1.2.2.2.2.2.2.2.1, z.1.2.2.2.2.2.2.2.2.1, z.1.2.2.2.2.2.2.2.2.2.1, z.1.2.2.2.2.2.2.2.2.2.2.1, z.1.2.2.2.2.2.2.2.2.2.2.2.1, z.1.2.2.2.2.2.2.2.2.2.2.2.2, z.2))

def impl_imported.f (k : Nat) (a0 : ByteArray) : Option (Int × Int × Int × Int × Int × Bool × Int × Int × Int × Int × Bool × ByteArray × Int × Int) := if a0.size ≤ 4611686018427387904 then impl_imported.g k a0 else none

theorem imB.mono : ∀ z x k, LeO (imB k z x) (imB (k + 1) z x) := by
  intro z x k
  unfold imB
  repeat' first
  | (with_reducible exact impl_ParseShape.mono _ _)
  | (with_reducible exact impl_ParsePlace.mono _ _)
  | (with_reducible exact impl_OldPlace.mono _ _)
  | (with_reducible exact impl_ParseMove.mono _ _)
  | exact LeO.refl _
  | exact LeO.none _
  | refine LeO.ite ?_ ?_
  | refine LeO.bind ?_ (fun _ => ?_)

theorem imF.mono : ∀ xs z k, LeO (imF k xs z) (imF (k + 1) xs z)
  | [], _, _ => LeO.refl _
  | x :: xs, z, k => LeO.bind (imB.mono _ _ _) (fun _ => imF.mono xs _ k)

theorem impl_imported.mono : ∀ a0 k, LeO (impl_imported.f k a0) (impl_imported.f (k + 1) a0) := by
  intro a0 k
  unfold impl_imported.f
  refine LeO.ite ?_ (LeO.none _)
  unfold impl_imported.g
  exact LeO.bind (impl_readHand.mono _ _) (fun _ => LeO.bind (imF.mono _ _ _) (fun _ => LeO.refl _))

def impl_imported.e (k : Nat) : Refl.Ent G := ⟨47, [(.c .str)], .tup [(.agg gL4), (.c li)], fun x => impl_imported.f k x⟩
def semi : ByteArray := ⟨#[59]⟩
theorem wr_in (n : Int) (h : -9223372036854775808 ≤ n ∧ n ≤ 9223372036854775807) : wrap64 n = n := by unfold wrap64; omega
theorem ix_cases (r : ByteArray) : Lib.indexByte r.data.toList 59 = -1 ∨ ∃ o : Nat, Lib.indexByte r.data.toList 59 = o ∧ o < r.size := by
  rcases Lib.indexByte_piece r 0 r.size 59 with h | ⟨o, h, h2⟩
  · left; rwa [ByteArray.extract_zero_size] at h
  · right; rw [ByteArray.extract_zero_size] at h; exact ⟨o, h, by omega⟩
theorem itF_miss (n : Nat) (r : ByteArray) (h : Lib.indexByte r.data.toList 59 = -1) : itF n r = [r] := by
  cases n with
  | zero => rfl
  | succ n => rw [itF, if_pos (by rw [h]; decide)]
theorem itF_hit (n : Nat) (r : ByteArray) (o : Nat) (h : Lib.indexByte r.data.toList 59 = o) : itF (n + 1) r = r.extract 0 o :: itF n (r.extract (o + 1) r.size) := by
  rw [itF, if_neg (by rw [h]; omega), h]; rfl

section
attribute [local go_sem] Oper.semAt_some
set_option maxHeartbeats 1000000 in
theorem ss136 (s : ByteArray) (w : World) : Calls Tryz.prog 136 #[.string s, .string semi, .int .i64 0] w fun e w' => e = .returned (.func (.func 180) #[] #[Refl.ptr (w.heap.size + 1), Refl.ptr w.heap.size, Refl.ptr (w.heap.size + 2)]) ∧
    w' = ((w.alloc (.cells #[.string s] 9)).alloc (.cells #[.string semi] 9)).alloc (.cells #[.int .i64 0] 3) := by
  go_enter Tryz.func136, Tryz.ntmps136
  go_wp2
  go_ret
  exact ⟨rfl, rfl⟩
set_option maxHeartbeats 1000000 in
theorem ss85 (s : ByteArray) (w : World) : Calls Tryz.prog 85 #[.string s, .string semi] w fun e w' => e = .returned (.func (.func 180) #[] #[Refl.ptr (w.heap.size + 1), Refl.ptr w.heap.size, Refl.ptr (w.heap.size + 2)]) ∧
    w' = ((w.alloc (.cells #[.string s] 9)).alloc (.cells #[.string semi] 9)).alloc (.cells #[.int .i64 0] 3) := by
  go_enter Tryz.func85, Tryz.ntmps85
  go_wp2_with (go_at_call 136; refine (ss136 _ _).mono ?_; rintro e w' ⟨rfl, rfl⟩)
  go_ret
  exact ⟨rfl, rfl⟩
theorem ss85_T (s : ByteArray) (w : World) : Calls Tryz.prog 85 #[.string s, .string semi] w fun e w' => ∃ Bs Bp Bv, e = .returned (.func (.func 180) #[] #[Refl.ptr Bp, Refl.ptr Bs, Refl.ptr Bv]) ∧ Below w.heap.size w w' ∧ w.heap.size ≤ Bs ∧ Bs < w'.heap.size ∧ w.heap.size ≤ Bp ∧ Bp < w'.heap.size ∧ w.heap.size ≤ Bv ∧ Bv < w'.heap.size ∧ Refl.SpT 9 3 (.string semi) Bs Bp Bv s w' := by
  refine (ss85 s w).mono ?_
  rintro e w' ⟨rfl, rfl⟩
  have z1 : (w.alloc (.cells #[.string s] 9)).heap.size = w.heap.size + 1 := World.size_alloc _ _
  have z2 : ((w.alloc (.cells #[.string s] 9)).alloc (.cells #[.string semi] 9)).heap.size = w.heap.size + 2 := (World.size_alloc _ _).trans (by rw [z1])
  have z3 : (((w.alloc (.cells #[.string s] 9)).alloc (.cells #[.string semi] 9)).alloc (.cells #[.int .i64 0] 3)).heap.size = w.heap.size + 3 := (World.size_alloc _ _).trans (by rw [z2])
  refine ⟨w.heap.size, w.heap.size + 1, w.heap.size + 2, rfl, (((Below.refl _ w).alloc (Nat.le_refl _) _).alloc (by omega) _).alloc (by omega) _, Nat.le_refl _, by omega, by omega, by omega, by omega, by omega, ⟨by omega, by omega, ?_, ?_, ?_⟩⟩
  · exact (Below.heap_alloc _ _ _ (by omega)).trans ((Below.heap_alloc _ _ _ (by omega)).trans (World.alloc_heap_new w _))
  · exact (Below.heap_alloc _ _ _ (by omega)).trans (by rw [← z1]; exact World.alloc_heap_new _ _)
  · rw [← z2]; exact World.alloc_heap_new _ _
def szAt (Bs : Nat) (w : World) : Nat := match w.cell? ⟨Bs, 0, none⟩ with | some (.string s) => s.size | _ => 0
theorem cellB {W : World} {B : Nat} {v : Value} {t : TypeId} (h : W.heap[B]? = some (.cells #[v] t (0, 0))) : W.cell? ⟨B, 0, none⟩ = some v ∧ W.frozen? ⟨B, 0, none⟩ = false := by
  constructor <;> simp [World.cell?, World.frozen?, h]
theorem szAt_eq {Bs : Nat} {w : World} {s : ByteArray} (h : w.cell? ⟨Bs, 0, none⟩ = some (.string s)) : szAt Bs w = s.size := by
  unfold szAt; rw [h]
set_option maxRecDepth 100000 in
set_option maxHeartbeats 4000000 in
theorem it180 (m l Bs Bp Bv : Nat) (s : ByteArray) (hsz : s.size ≤ 4611686018427387904) (J : List ByteArray → World → Prop) (W : World) (hJ1 : ∀ pre W v, J pre W → J pre (W.setCell ⟨Bs, 0, none⟩ v)) (hJ2 : ∀ pre W W', J pre W → Below W.heap.size W W' → J pre W')
    (hY : ∀ pre x ys W1 r, pre ++ x :: ys = itP s → J pre W1 → Refl.SpT 9 3 (.string semi) Bs Bp Bv r W1 → YieldAt Fence.wide m Tryz.prog l #[.string x] W1 fun e W' => e = .returned (.bool true) ∧ J (pre ++ [x]) W' ∧ Refl.SpT 9 3 (.string semi) Bs Bp Bv r W')
    (h0 : J [] W) (hT : Refl.SpT 9 3 (.string semi) Bs Bp Bv s W) :
    CallsIn Fence.wide (m + 1) Tryz.prog 180 (#[.func (.yield l) #[] #[]] ++ #[Refl.ptr Bp, Refl.ptr Bs, Refl.ptr Bv]) W fun e W' => (∃ v, e = .returned v) ∧ J (itP s) W' := by
  refine callsIn_of_wp Tryz.func180 rfl trivial ?_ rfl
  unfold Refl.ptr
  simp only [Tryz.ntmps180, List.size_toArray, List.length_cons, List.length_nil, Nat.reduceAdd, Nat.reduceSub, Array.replicate_succ, Array.replicate_zero, List.push_toArray, List.append_toArray, List.nil_append, List.cons_append]
  have c1 := (cellB hT.s).1
  have c2 := (cellB hT.p).1
  have c3 := (cellB hT.v).1
  have h182 : Fence.wide.fn 182 := trivial
  gi_wp2
  gi_loopw [] (fun wr => ∃ (pre : List ByteArray) (r : ByteArray) (n : Nat), r.size ≤ n ∧ r.size ≤ 4611686018427387904 ∧ itP s = pre ++ itF n r ∧ Refl.SpT 9 3 (.string semi) Bs Bp Bv r wr ∧ J pre wr) (fun wr => szAt Bs wr)
  case atStart => exact ⟨[], s, s.size, Nat.le_refl _, hsz, rfl, hT, h0⟩
  case round =>
    clear c1 c2 c3 hT h0
    obtain ⟨pre, r, n, hn, hz, hx, hT, hJs⟩ := hrel
    have c1 := (cellB hT.s).1
    have c2 := (cellB hT.p).1
    have c3 := (cellB hT.v).1
    rcases ix_cases r with hi | ⟨o, hi, ho⟩
    · obtain ⟨fn, tmps, assign, body, hy, hR⟩ := hY pre r [] wr r (by rw [hx, itF_miss n r hi]) hJs hT
      gi_wp2_with (gi_at_call 182; refine (callsIn_wide.2 (Tryz.strings_Index_one r 59 wr)).mono ?_; rintro e w' ⟨rfl, rfl⟩; rw [hi])
      refine hR.mono ?_
      rintro e W3 ⟨rfl, hJ3, hT3⟩
      gi_wp2
      go_end0
      exact ⟨⟨_, rfl⟩, by rw [hx, itF_miss n r hi]; exact hJ3⟩
    · obtain ⟨n, rfl⟩ : ∃ n', n = n' + 1 := ⟨n - 1, by omega⟩
      have hit := itF_hit n r o hi
      have hw1 : wrap64 (o : Int) = o := wr_in _ (by omega)
      have hw2 : wrap64 ((o : Int) + (semi.size : Int)) = ((o + 1 : Nat) : Int) := by rw [show semi.size = 1 from rfl, wr_in _ (by omega)]; omega
      have e1 : ((o : Nat) : Int).toNat = o := Int.toNat_natCast o
      have e2 : ((o + 1 : Nat) : Int).toNat = o + 1 := Int.toNat_natCast (o + 1)
      have hd : ¬ ((o : Int) < 0) := by omega
      obtain ⟨fn, tmps, assign, body, hy, hR⟩ := hY pre (r.extract 0 o) (itF n (r.extract (o + 1) r.size)) wr r (by rw [hx, hit]) hJs hT
      gi_wp2_with (first | (gi_at_call 182; refine (callsIn_wide.2 (Tryz.strings_Index_one r 59 wr)).mono ?_; rintro e w' ⟨rfl, rfl⟩; rw [hi]) | (rw [hw1]))
      refine hR.mono ?_
      rintro e W3 ⟨rfl, hJ3, hT3⟩
      have d1 := (cellB hT3.s).1
      have d1f := (cellB hT3.s).2
      have d2 := (cellB hT3.p).1
      have d3 := (cellB hT3.v).1
      gi_wp2_with (first | (rw [hw2]))
      refine ⟨⟨_, _, _, _, _, _, _, _, _, _, _, _, _, _, _, _, _, _, _, _, _, _, ?rel, rfl⟩, ?measure⟩
      case rel =>
        have hzr : (r.extract (o + 1) r.size).size = r.size - (o + 1) := by rw [ByteArray.size_extract]; omega
        refine ⟨pre ++ [r.extract 0 o], r.extract (o + 1) r.size, n, by omega, by omega, by rw [hx, hit]; simp, ⟨hT3.np, hT3.nv, one_setCell hT3.s, ?_, ?_⟩, hJ1 _ _ _ hJ3⟩
        · exact (Below.heap_setCell _ _ _ _ (fun e => hT3.np e.symm)).trans hT3.p
        · exact (Below.heap_setCell _ _ _ _ (fun e => hT3.nv e.symm)).trans hT3.v
      case measure =>
        rw [szAt_eq c1, szAt_eq (cellB (one_setCell hT3.s)).1, ByteArray.size_extract]
        omega
end
def sL : Code → Code | .seq a _ => a | c => c
def sR : Code → Code | .seq _ b => b | c => c
def rO : Code → Array Oper | .region _ ops _ => ops | _ => #[]
def bC : Code → Code | .block _ c => c | c => c
def fA : Code → Code | .rangeFunc _ _ a _ => a | c => c
def fB : Code → Code | .rangeFunc _ _ _ b => b | c => c
noncomputable def imC : Code := Tryz.f47.body.getD .skip
noncomputable def imR : Code := sR (sR (sR imC))
def imE (k : Nat) : List (Refl.Ent G) := [impl_readHand.e k, strings_Cut.e k, impl_ParseShape.e k, impl_ParseOrient.e k, impl_ParsePlace.e k, impl_OldPlace.e k, impl_ParseMove.e k]
theorem imE_ok (k : Nat) : Refl.EsOK Tryz.prog (imE k) := ⟨impl_readHand.ok k, strings_Cut.ok k, impl_ParseShape.ok k, impl_ParseOrient.ok k, impl_ParsePlace.ok k, impl_OldPlace.ok k, impl_ParseMove.ok k, trivial⟩
def imLa : List Refl.LC := [li, li, li, li, li, .bool, li, li, li, li, .bool, .str, li]
def imL : List Refl.LC := [li, li, li, li, li, .bool, li, li, li, li, .bool, .str, li, li]
def imP (_ : Refl.PT G imLa) (z : Refl.PT G imLa × Refl.PT G [li]) : Option (Refl.PT G imL) := some (z.1.1, z.1.2.1, z.1.2.2.1, z.1.2.2.2.1, z.1.2.2.2.2.1, z.1.2.2.2.2.2.1, z.1.2.2.2.2.2.2.1, z.1.2.2.2.2.2.2.2.1, z.1.2.2.2.2.2.2.2.2.1, z.1.2.2.2.2.2.2.2.2.2.1, z.1.2.2.2.2.2.2.2.2.2.2.1, z.1.2.2.2.2.2.2.2.2.2.2.2.1, z.1.2.2.2.2.2.2.2.2.2.2.2.2, z.2)
theorem imF_fold (k : Nat) : ∀ (xs : List ByteArray) (z : HdI), imF k xs z = Refl.foldB (imB k) xs z
  | [], _ => rfl
  | x :: xs, z => by
    show (imB k z x).bind (imF k xs) = (imB k z x).bind (Refl.foldB (imB k) xs)
    cases imB k z x with
    | none => rfl
    | some y => exact imF_fold k xs y
set_option maxRecDepth 100000 in
theorem im_calls (k : Nat) : ∀ (s : ByteArray) (y : Refl.PT G imL), s.size ≤ 4611686018427387904 → impl_imported.g k s = some y → ∀ w, G.lw w → Calls Tryz.prog 47 #[.string s] w fun en w' => en = .returned (Refl.resVal (.tup [.agg imLa, .c li]) (Refl.vcVals [.agg imLa, .c li] imL y)) ∧ Below w.heap.size w w' := by
  refine Refl.calls_split (P := Tryz.prog) (Γ := G) GC (E := imE) (k := k) (fun k => (imE_ok k).all) (f := 47) (fn := Tryz.f47) Tryz.func47
    (r0 := sL imC) (r1 := sL (sR imC)) (r2 := sL (sR (sR imC))) (r29 := sL (sR imR)) (bd := fB (bC (sR (sL imR)))) (i3 := 3) (i4 := 4) (bid := 0) (ops3 := rO (sL (sL imR))) (ops4 := rO (fA (bC (sR (sL imR)))))
    (o1 := ((rO (sL (sL imR)))[0]?).getD default) (o2 := ((rO (sL (sL imR)))[1]?).getD default) (o4 := ((rO (fA (bC (sR (sL imR)))))[0]?).getD default)
    (gT := 27) (pT := 28) (vT := 8) (d1 := 26) (t2 := 2) (t4 := 4) (t7 := 7) (k2 := 1000002) (k4 := 1000004) (k7 := 1000007) ?hcode ?hbd (f3 := 85) (gf := 180) (sep := .string semi) (ts := #[9, 9])
    ?z3 ?p0 ?p1 ?q0 ?q1 ?m0 ?m1 ?n0 ?n1 (enters_of Tryz.func85 (by kernel_rfl) rfl) (enters_of Tryz.func180 (by kernel_rfl) rfl) ?z4 ?p4 ?q4 ?m4 ?n4 (st := 9) (it := 3) ss85_T
    (pieces := itP) (small := fun s => s.size ≤ 4611686018427387904) (fun m l Bs Bp Bv s hs J W h1 h2 h3 h4 h5 => it180 m l Bs Bp Bv s hs J W h1 h2 h3 h4 h5) (La := imLa) (Lb := [li]) (L := imL) (Ta := 31) (Tb := 3) (rc := .tup [.agg imLa, .c li])
    ?fa ?fb (F := impl_imported.g k) (B := imB k) (Fp := imP) ?hF ?hB ?hP ?hres ?fr (by decide)
  case hF =>
    intro s
    have e : impl_imported.g k s = (impl_readHand.f k (⟨#[48, 48, 48, 48, 48, 47, 102, 117, 47, 115, 112, 97, 99, 101, 47, 45]⟩ : ByteArray)).bind fun t => ((Refl.foldB (imB k) (itP s) ((t.1, t.2.1, t.2.2.1, t.2.2.2.1, t.2.2.2.2.1, t.2.2.2.2.2.1, t.2.2.2.2.2.2.1, t.2.2.2.2.2.2.2.1, t.2.2.2.2.2.2.2.2.1, t.2.2.2.2.2.2.2.2.2.1, t.2.2.2.2.2.2.2.2.2.2.1, t.2.2.2.2.2.2.2.2.2.2.2.1, t.2.2.2.2.2.2.2.2.2.2.2.2.1), 0)).bind (imP (show Int × Int × Int × Int × Int × Bool × Int × Int × Int × Int × Bool × ByteArray × Int from (0, 0, 0, 0, 0, false, 0, 0, 0, 0, false, (⟨#[]⟩ : ByteArray), 0)))) := by
      unfold impl_imported.g
      congr 1
      funext t
      rw [imF_fold]
      rfl
    refine e.trans ?_
    kernel_rfl
  case hB => intro z x; kernel_rfl
  case hP => intro df x2 z; kernel_rfl
  case fa => intro x; exact ⟨by kernel_rfl, by kernel_rfl⟩
  case fb => intro x; exact ⟨by kernel_rfl, by kernel_rfl⟩
  case fr => intro y; kernel_rfl
  all_goals kernel_rfl
theorem impl_imported.ok (k : Nat) : Refl.EntOK Tryz.prog (impl_imported.e k) := Refl.entOK_handL Tryz.func47 (by kernel_rfl) (fun x => by kernel_rfl) (fun y => ⟨by kernel_rfl, by kernel_rfl, by kernel_rfl, by kernel_rfl⟩) (fun x y h w hl => by
  replace h : impl_imported.f k x = some y := h
  unfold impl_imported.f at h
  split at h
  · rename_i hs; exact im_calls k x y hs h w hl
  · cases h)

/-! ### impl_ImportHand: function 10 -/

def impl_ImportHand.f (k : Nat) (a0 : ByteArray) : Option (Int × Int × Int × Int × Int × Bool × Int × Int × Int × Int × Bool × ByteArray × Int × Int × Bool) := if (a0.size : Int) > 100 then (some (0, 0, 0, 0, 0, false, 0, 0, 0, 0, false, (⟨#[]⟩ : ByteArray), 0, 0, false)) else ((impl_imported.f k a0).bind fun bt372 => (some (bt372.1, bt372.2.1, bt372.2.2.1, bt372.2.2.2.1, bt372.2.2.2.2.1, bt372.2.2.2.2.2.1, bt372.2.2.2.2.2.2.1, bt372.2.2.2.2.2.2.2.1, bt372.2.2.2.2.2.2.2.2.1, bt372.2.2.2.2.2.2.2.2.2.1, bt372.2.2.2.2.2.2.2.2.2.2.1, bt372.2.2.2.2.2.2.2.2.2.2.2.1, bt372.2.2.2.2.2.2.2.2.2.2.2.2.1, bt372.2.2.2.2.2.2.2.2.2.2.2.2.2, true)))

theorem impl_ImportHand.mono : ∀ a0 k, LeO (impl_ImportHand.f k a0) (impl_ImportHand.f (k + 1) a0) := by
  intro a0 k
  unfold impl_ImportHand.f
  repeat' first
      | (with_reducible exact impl_imported.mono _ _)
      | (with_reducible exact LeO.refl _)
      | (with_reducible exact LeO.none _)
      | (with_reducible refine LeO.ite ?_ ?_)
      | (with_reducible refine LeO.bind ?_ (fun _ => ?_))
      | exact impl_imported.mono _ _
      | exact LeO.none _
      | refine LeO.ite ?_ ?_
      | refine LeO.bind ?_ (fun _ => ?_)

def impl_ImportHand.e (k : Nat) : Refl.Ent G := ⟨10, [(.c .str)], .tup [(.agg gL4), (.c li), (.c .bool)], fun x => impl_ImportHand.f k x⟩
theorem impl_ImportHand.ok (k : Nat) : Refl.EntOK Tryz.prog (impl_ImportHand.e k) := Refl.ent_ok 1000000 k GC (fun k => [impl_imported.e k]) (fun k => ⟨impl_imported.ok k, trivial⟩) Tryz.func10 (by kernel_rfl) [] (ps := []) (by kernel_rfl) trivial (fun x => by kernel_rfl)

/-! ### laws_eqShape: function 48 -/

def laws_eqShape.f (a0_0 : Int) (a0_1 : Int) (a0_2 : Int) (a0_3 : Int) (a0_4 : Int) (a0_5 : Bool) (a1_0 : Int) (a1_1 : Int) (a1_2 : Int) (a1_3 : Int) (a1_4 : Int) (a1_5 : Bool) : Option (Bool) := if a0_0 = a1_0 then (if a0_1 = a1_1 then (if a0_2 = a1_2 then (if a0_3 = a1_3 then (if a0_4 = a1_4 then (if ((a0_5 == a1_5) = true) then (some true) else (some false)) else (some false)) else (some false)) else (some false)) else (some false)) else (some false)

def laws_eqShape.e (k : Nat) : Refl.Ent G := ⟨48, [(.agg [li, li, li, li, li, .bool]), (.agg [li, li, li, li, li, .bool])], .one (.c .bool), fun x => laws_eqShape.f x.1 x.2.1 x.2.2.1 x.2.2.2.1 x.2.2.2.2.1 x.2.2.2.2.2.1 x.2.2.2.2.2.2.1 x.2.2.2.2.2.2.2.1 x.2.2.2.2.2.2.2.2.1 x.2.2.2.2.2.2.2.2.2.1 x.2.2.2.2.2.2.2.2.2.2.1 x.2.2.2.2.2.2.2.2.2.2.2⟩
theorem laws_eqShape.ok (k : Nat) : Refl.EntOK Tryz.prog (laws_eqShape.e k) := Refl.ent_ok 1000000 k GC (fun k => []) (fun k => trivial) Tryz.func48 (by kernel_rfl) [] (ps := []) (by kernel_rfl) trivial (fun x => by kernel_rfl)

end Go.Proofs.YtcicpmhcmlfhbaaGreatDoor.PA
