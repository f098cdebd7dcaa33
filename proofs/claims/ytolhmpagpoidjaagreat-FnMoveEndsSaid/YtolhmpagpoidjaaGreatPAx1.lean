-- Written by a program of this session (wip/tools/myprint.py). Not trusted: Lean checks it.
import Derived.Test.YtolhmpagpoidjaaGreatCtx
namespace Go.Proofs.YtolhmpagpoidjaaGreat.PA
open Go.RowKit Go.Proofs.YtolhmpagpoidjaaGreatW.PrintWords Go.Proofs.YtolhmpagpoidjaaGreatW.PrintLast Go.Proofs.YtolhmpagpoidjaaGreatW.PrintMore
attribute [local go_sem] max2_int min2_int max_two min_two max_three min_three max_four min_four   -- for this text's walks alone
set_option linter.unusedVariables false
set_option linter.unusedSimpArgs false

/-- A state of type 49 at block g of W; what its slices lead to came in by w0. -/
def IsS49 (w0 W : World) (g : Nat) (f0 : List Int) (f1 : Int) (f2 : Int) : Prop := ∃ A0 c0, W.heap[g]? = some (.cells #[.slice A0 f0.length c0, .int .i64 f1, .int .u64 f2] 49 (0, 0)) ∧ w0.heap.size ≤ g ∧ Kd.C (Kd.int .u8) w0 A0 f0.length f0
theorem IsS49.grown {w0 W : World} {g : Nat} {f0 : List Int} {f1 : Int} {f2 : Int} {W1 : World} {row : Option Nat} (h : IsS49 w0 W g f0 f1 f2) (hw : W.grownBy W1 row) (hne : some g ≠ row) : IsS49 w0 W1 g f0 f1 f2 := by
  obtain ⟨A0, c0, hb, hg, hr0⟩ := h
  exact ⟨A0, c0, blk_grown hb hw hne, hg, hr0⟩
theorem IsS49.own_neN {w0 W : World} {g : Nat} {f0 : List Int} {f1 : Int} {f2 : Int} {α : Type} {d : Kd α} {e : Nat} {base : Nat} {ok : Nat → Prop} {v : Value} {xs : List α} (h : IsS49 w0 W g f0 f1 f2) (ho : Kd.N d e W base ok v xs) (ht : e ≠ 49) : some g ≠ v.ownBlock := by
  obtain ⟨A0, c0, hb, hg, hr0⟩ := h
  exact Kd.N_ne ho hb ht
theorem IsS49.fresh {w0 W : World} {g : Nat} {f0 : List Int} {f1 : Int} {f2 : Int} (h : IsS49 w0 W g f0 f1 f2) : ∀ k, W.heap.size ≤ k → k ≠ g := by
  obtain ⟨A0, c0, hb, hg, hr0⟩ := h
  exact Kd.freshB hb
theorem IsS49.kept {w0 W : World} {g : Nat} {f0 : List Int} {f1 : Int} {f2 : Int} {W1 : World} {S : Nat → Prop} (h : IsS49 w0 W g f0 f1 f2) (hk : Kept W W1 S) (hne : ¬ S g) : IsS49 w0 W1 g f0 f1 f2 := by
  obtain ⟨A0, c0, hb, hg, hr0⟩ := h
  exact ⟨A0, c0, blk_kept hb hk hne, hg, hr0⟩
theorem IsS49.below {w0 W : World} {g : Nat} {f0 : List Int} {f1 : Int} {f2 : Int} {W1 : World} (h : IsS49 w0 W g f0 f1 f2) (hw : Below W.heap.size W W1) : IsS49 w0 W1 g f0 f1 f2 := h.grown (grown_of_below hw none) (by simp)
theorem IsS49.alloc {w0 W : World} {g : Nat} {f0 : List Int} {f1 : Int} {f2 : Int} (h : IsS49 w0 W g f0 f1 f2) (o : Obj) : IsS49 w0 (W.alloc o) g f0 f1 f2 := h.below (below_alloc (Below.refl _ _) o)
theorem IsS49.drewN {w0 W : World} {g : Nat} {f0 : List Int} {f1 : Int} {f2 : Int} (h : IsS49 w0 W g f0 f1 f2) (m : Nat) : IsS49 w0 (W.drewN m) g f0 f1 f2 := h
theorem IsS49.drew {w0 W : World} {g : Nat} {f0 : List Int} {f1 : Int} {f2 : Int} (h : IsS49 w0 W g f0 f1 f2) : IsS49 w0 W.drew g f0 f1 f2 := h
theorem IsS49.at_ {w0 W : World} {g : Nat} {f0 : List Int} {f1 : Int} {f2 : Int} {w' : World} {m : Nat} (hq : W.drewN m = w') (h : IsS49 w0 W g f0 f1 f2) : IsS49 w0 w' g f0 f1 f2 := by subst hq; exact IsS49.drewN h m
theorem IsS49.apart {w0 W : World} {g : Nat} {f0 : List Int} {f1 : Int} {f2 : Int} {α : Type} {d : Kd α} {e : Nat} {base : Nat} {ok : Nat → Prop} {v : Value} {xs : List α} (h : IsS49 w0 W g f0 f1 f2) (ho : d.R e W base ok v xs) (ht : ∀ q, q ∈ e :: d.E → q ≠ 49) : d.R e W base (fun k => ok k ∧ k ≠ g) v xs := by
  obtain ⟨A0, c0, hb, hg, hr0⟩ := h
  exact Kd.R_types ho hb ht
theorem IsS49.own_ne {w0 W : World} {g : Nat} {f0 : List Int} {f1 : Int} {f2 : Int} {α : Type} {d : Kd α} {e : Nat} {base : Nat} {ok : Nat → Prop} {v : Value} {xs : List α} (h : IsS49 w0 W g f0 f1 f2) (ho : d.R e W base ok v xs) (ht : e ≠ 49) : some g ≠ v.ownBlock := by
  obtain ⟨A0, c0, hb, hg, hr0⟩ := h
  exact Kd.R_ne ho hb ht
theorem IsS49.apartQ {w0 W : World} {g : Nat} {f0 : List Int} {f1 : Int} {f2 : Int} {α : Type} {d : Kd α} {e : Nat} {base : Nat} {ok : Nat → Prop} {v : Value} {xs : List α} (h : IsS49 w0 W g f0 f1 f2) (ho : d.Q e W base ok v xs) (ht : ∀ q, q ∈ e :: d.E → q ≠ 49) : d.Q e W base (fun k => ok k ∧ k ≠ g) v xs := by
  obtain ⟨A0, c0, hb, hg, hr0⟩ := h
  exact Kd.Q_types ho hb ht
theorem IsS49.own_neQ {w0 W : World} {g : Nat} {f0 : List Int} {f1 : Int} {f2 : Int} {α : Type} {d : Kd α} {e : Nat} {base : Nat} {ok : Nat → Prop} {v : Value} {xs : List α} (h : IsS49 w0 W g f0 f1 f2) (ho : d.Q e W base ok v xs) (ht : e ≠ 49) : some g ≠ v.ownBlock := by
  obtain ⟨A0, c0, hb, hg, hr0⟩ := h
  exact Kd.Q_ne ho hb ht
theorem IsS49.apartS {w0 W : World} {g : Nat} {f0 : List Int} {f1 : Int} {f2 : Int} {α : Type} {d : Kd α} {e : Nat} {base : Nat} {ok : Nat → Prop} {v : Value} {xs : List α} (h : IsS49 w0 W g f0 f1 f2) (ho : d.S e W base ok v xs) (ht : ∀ q, q ∈ e :: d.E → q ≠ 49) : d.S e W base (fun k => ok k ∧ k ≠ g) v xs := by
  obtain ⟨A0, c0, hb, hg, hr0⟩ := h
  exact Kd.S_types ho hb ht
theorem IsS49.own_neS {w0 W : World} {g : Nat} {f0 : List Int} {f1 : Int} {f2 : Int} {α : Type} {d : Kd α} {e : Nat} {base : Nat} {ok : Nat → Prop} {v : Value} {xs : List α} (h : IsS49 w0 W g f0 f1 f2) (ho : d.S e W base ok v xs) (ht : e ≠ 49) : some g ≠ v.ownBlock := by
  obtain ⟨A0, c0, hb, hg, hr0⟩ := h
  exact Kd.S_ne ho hb ht
theorem IsS49.lt {w0 W : World} {g : Nat} {f0 : List Int} {f1 : Int} {f2 : Int} (h : IsS49 w0 W g f0 f1 f2) : g < W.heap.size := by
  obtain ⟨A0, c0, hb, hg, hr0⟩ := h
  exact blk_lt hb
theorem IsS49.ge {w0 W : World} {g : Nat} {f0 : List Int} {f1 : Int} {f2 : Int} (h : IsS49 w0 W g f0 f1 f2) : w0.heap.size ≤ g := by
  obtain ⟨A0, c0, hb, hg, hr0⟩ := h
  exact hg
theorem IsS49.ne_blk {w0 W : World} {g : Nat} {f0 : List Int} {f1 : Int} {f2 : Int} {a : Nat} {cs : Array Value} {t : TypeId} {fr : Nat × Nat} (h : IsS49 w0 W g f0 f1 f2) (hb2 : W.heap[a]? = some (.cells cs t fr)) (ht : t ≠ 49) : g ≠ a := by
  obtain ⟨A0, c0, hb, hg, hr0⟩ := h
  rintro rfl
  rw [hb] at hb2
  injection hb2 with hb2
  injection hb2 with _ ht2
  exact ht ht2.symm
theorem IsS49.far {w0 W : World} {g : Nat} {f0 : List Int} {f1 : Int} {f2 : Int} {p : Addr} (h : IsS49 w0 W g f0 f1 f2) (hne : g ≠ p.block) (u : Value) : IsS49 w0 (W.setCell p u) g f0 f1 f2 := by
  obtain ⟨A0, c0, hb, hg, hr0⟩ := h
  exact ⟨A0, c0, blk_far hb hne u, hg, hr0⟩
theorem cellS49_0 {W : World} {g : Nat} {A0 : Option Addr} {c0 : Nat} {f0 : List Int} {f1 : Int} {f2 : Int} (h : W.heap[g]? = some (.cells #[.slice A0 f0.length c0, .int .i64 f1, .int .u64 f2] 49 (0, 0))) : W.cell? ⟨g, 0, none⟩ = some (.slice A0 f0.length c0) := (blk_cell h 0).trans rfl
theorem cellS49_1 {W : World} {g : Nat} {A0 : Option Addr} {c0 : Nat} {f0 : List Int} {f1 : Int} {f2 : Int} (h : W.heap[g]? = some (.cells #[.slice A0 f0.length c0, .int .i64 f1, .int .u64 f2] 49 (0, 0))) : W.cell? ⟨g, 1, none⟩ = some (.int .i64 f1) := (blk_cell h 1).trans rfl
theorem IsS49.set_1 {w0 W : World} {g : Nat} {f0 : List Int} {f1 : Int} {f2 : Int} (h : IsS49 w0 W g f0 f1 f2) (x : Int) : IsS49 w0 (W.setCell ⟨g, 1, none⟩ (.int .i64 x)) g f0 x f2 := by
  obtain ⟨A0, c0, hb, hg, hr0⟩ := h
  exact ⟨A0, c0, by simpa using blk_set hb 1 (.int .i64 x), hg, hr0⟩
theorem cellS49_2 {W : World} {g : Nat} {A0 : Option Addr} {c0 : Nat} {f0 : List Int} {f1 : Int} {f2 : Int} (h : W.heap[g]? = some (.cells #[.slice A0 f0.length c0, .int .i64 f1, .int .u64 f2] 49 (0, 0))) : W.cell? ⟨g, 2, none⟩ = some (.int .u64 f2) := (blk_cell h 2).trans rfl
theorem IsS49.set_2 {w0 W : World} {g : Nat} {f0 : List Int} {f1 : Int} {f2 : Int} (h : IsS49 w0 W g f0 f1 f2) (x : Int) : IsS49 w0 (W.setCell ⟨g, 2, none⟩ (.int .u64 x)) g f0 f1 x := by
  obtain ⟨A0, c0, hb, hg, hr0⟩ := h
  exact ⟨A0, c0, by simpa using blk_set hb 2 (.int .u64 x), hg, hr0⟩
theorem IsS49.new (w0 W : World) (A0 : Option Addr) (c0 : Nat) (f0 : List Int) (f1 : Int) (f2 : Int) (hB : Below w0.heap.size w0 W) (hr0 : Kd.C (Kd.int .u8) w0 A0 f0.length f0) : IsS49 w0 (W.alloc (.cells #[.slice A0 f0.length c0, .int .i64 f1, .int .u64 f2] 49)) W.heap.size f0 f1 f2 := ⟨A0, c0, by simpa using heap_alloc_new W _, hB.size, hr0⟩

/-! ### spec_l1Cur_next: function 64 -/

def spec_l1Cur_next.f (s0_0 : List Int) (s0_1 : Int) (s0_2 : Int) : Option (Int × List Int × Int × Int) := if s0_1 < (s0_0.length : Int) then (if 0 ≤ s0_1 then (if s0_1 < (s0_0.length : Int) then (if (wrap64 (s0_1 + 1)) ≤ (s0_0.length : Int) then (some (wrap64 (rd s0_0 s0_1), s0_0, wrap64 (s0_1 + 1), IntKind.u64.wrap ((IntKind.u64.wrap ((IntKind.u64.wrap (s0_2 * 6364136223846793005)) + (IntKind.u64.wrap (wrap64 (rd s0_0 s0_1))))) + 1442695040888963407))) else (some (wrap64 (Go.bits .and .u64 ((IntKind.u64.wrap ((IntKind.u64.wrap ((IntKind.u64.wrap (s0_2 * 6364136223846793005)) + (IntKind.u64.wrap (wrap64 (rd s0_0 s0_1))))) + 1442695040888963407)) / 1099511627776) 255), s0_0, wrap64 (s0_1 + 1), IntKind.u64.wrap ((IntKind.u64.wrap ((IntKind.u64.wrap (s0_2 * 6364136223846793005)) + (IntKind.u64.wrap (wrap64 (rd s0_0 s0_1))))) + 1442695040888963407)))) else (none)) else (none)) else (if (wrap64 (s0_1 + 1)) ≤ (s0_0.length : Int) then (some (0, s0_0, wrap64 (s0_1 + 1), IntKind.u64.wrap ((IntKind.u64.wrap ((IntKind.u64.wrap (s0_2 * 6364136223846793005)) + (IntKind.u64.wrap (0)))) + 1442695040888963407))) else (some (wrap64 (Go.bits .and .u64 ((IntKind.u64.wrap ((IntKind.u64.wrap ((IntKind.u64.wrap (s0_2 * 6364136223846793005)) + (IntKind.u64.wrap (0)))) + 1442695040888963407)) / 1099511627776) 255), s0_0, wrap64 (s0_1 + 1), IntKind.u64.wrap ((IntKind.u64.wrap ((IntKind.u64.wrap (s0_2 * 6364136223846793005)) + (IntKind.u64.wrap (0)))) + 1442695040888963407))))

def spec_l1Cur_next.e (k : Nat) : Refl.Ent G := ⟨64, [(.wr 1000000 49 gL0)], .one (.c li), fun x => spec_l1Cur_next.f x.1 x.2.1 x.2.2⟩
theorem spec_l1Cur_next.ok (k : Nat) : Refl.EntOK Tryz.prog (spec_l1Cur_next.e k) := Refl.ent_ok 1000000 k GC (fun k => []) (fun k => trivial) Tryz.func64 (by kernel_rfl) [] (ps := []) (by kernel_rfl) trivial (fun x => by kernel_rfl)

/-! ### spec_l1Cur_pick: function 51 -/

def spec_l1Cur_pick.f (s0_0 : List Int) (s0_1 : Int) (s0_2 : Int) (a1 : Int) : Option (Int × List Int × Int × Int) := if a1 ≤ 1 then (some (0, s0_0, s0_1, s0_2)) else ((spec_l1Cur_next.f s0_0 s0_1 s0_2).bind fun bt102 => (if a1 > 200 then ((spec_l1Cur_next.f bt102.2.1 bt102.2.2.1 bt102.2.2.2).bind fun bt106 => (if a1 = 0 then (none) else (some (Int.tmod (wrap64 ((wrap64 (bt102.1 * 256)) + bt106.1)) a1, bt106.2.1, bt106.2.2.1, bt106.2.2.2)))) else (if a1 = 0 then (none) else (some (Int.tmod bt102.1 a1, bt102.2.1, bt102.2.2.1, bt102.2.2.2)))))

def spec_l1Cur_pick.e (k : Nat) : Refl.Ent G := ⟨51, [(.wr 1000000 49 gL0), (.c li)], .one (.c li), fun x => spec_l1Cur_pick.f x.1 x.2.1 x.2.2.1 x.2.2.2⟩
theorem spec_l1Cur_pick.ok (k : Nat) : Refl.EntOK Tryz.prog (spec_l1Cur_pick.e k) := Refl.ent_ok 1000000 k GC (fun k => [spec_l1Cur_next.e k]) (fun k => ⟨spec_l1Cur_next.ok k, trivial⟩) Tryz.func51 (by kernel_rfl) [] (ps := []) (by kernel_rfl) trivial (fun x => by kernel_rfl)

/-! ### spec_l1Cur_one: function 33 -/

def spec_l1Cur_one.f (s0_0 : List Int) (s0_1 : Int) (s0_2 : Int) (a1 : Int) : Option (Bool × List Int × Int × Int) := (spec_l1Cur_pick.f s0_0 s0_1 s0_2 a1).bind fun bt110 => (some ((bt110.1 == 0), bt110.2.1, bt110.2.2.1, bt110.2.2.2))

def spec_l1Cur_one.e (k : Nat) : Refl.Ent G := ⟨33, [(.wr 1000000 49 gL0), (.c li)], .one (.c .bool), fun x => spec_l1Cur_one.f x.1 x.2.1 x.2.2.1 x.2.2.2⟩
theorem spec_l1Cur_one.ok (k : Nat) : Refl.EntOK Tryz.prog (spec_l1Cur_one.e k) := Refl.ent_ok 1000000 k GC (fun k => [spec_l1Cur_pick.e k]) (fun k => ⟨spec_l1Cur_pick.ok k, trivial⟩) Tryz.func33 (by kernel_rfl) [] (ps := []) (by kernel_rfl) trivial (fun x => by kernel_rfl)

/-! ### spec_l1Cur_among: function 52 -/

def spec_l1Cur_among.f (s0_0 : List Int) (s0_1 : Int) (s0_2 : Int) (l1 : List Int) : Option (Int × List Int × Int × Int) := (spec_l1Cur_pick.f s0_0 s0_1 s0_2 (l1.length : Int)).bind fun bt114 => (if 0 ≤ bt114.1 then (if bt114.1 < (l1.length : Int) then (some (rd l1 bt114.1, bt114.2.1, bt114.2.2.1, bt114.2.2.2)) else (none)) else (none))

def spec_l1Cur_among.e (k : Nat) : Refl.Ent G := ⟨52, [(.wr 1000000 49 gL0), (.c (.row 3 false))], .one (.c li), fun x => spec_l1Cur_among.f x.1 x.2.1 x.2.2.1 x.2.2.2⟩
theorem spec_l1Cur_among.ok (k : Nat) : Refl.EntOK Tryz.prog (spec_l1Cur_among.e k) := Refl.ent_ok 1000000 k GC (fun k => [spec_l1Cur_pick.e k]) (fun k => ⟨spec_l1Cur_pick.ok k, trivial⟩) Tryz.func52 (by kernel_rfl) [] (ps := []) (by kernel_rfl) trivial (fun x => by kernel_rfl)

/-! ### spec_l1Cur_of: function 53 -/

def spec_l1Cur_of.f (s0_0 : List Int) (s0_1 : Int) (s0_2 : Int) (l1 : List ByteArray) : Option (ByteArray × List Int × Int × Int) := (spec_l1Cur_pick.f s0_0 s0_1 s0_2 (l1.length : Int)).bind fun bt119 => (if 0 ≤ bt119.1 then (if bt119.1 < (l1.length : Int) then (some (rdOf ByteArray.empty l1 bt119.1, bt119.2.1, bt119.2.2.1, bt119.2.2.2)) else (none)) else (none))

def spec_l1Cur_of.e (k : Nat) : Refl.Ent G := ⟨53, [(.wr 1000000 49 gL0), (.c (.row 9 false))], .one (.c .str), fun x => spec_l1Cur_of.f x.1 x.2.1 x.2.2.1 x.2.2.2⟩
theorem spec_l1Cur_of.ok (k : Nat) : Refl.EntOK Tryz.prog (spec_l1Cur_of.e k) := Refl.ent_ok 1000000 k GC (fun k => [spec_l1Cur_pick.e k]) (fun k => ⟨spec_l1Cur_pick.ok k, trivial⟩) Tryz.func53 (by kernel_rfl) [] (ps := []) (by kernel_rfl) trivial (fun x => by kernel_rfl)

/-! ### spec_l1Cur_move: function 50 -/

mutual
def spec_l1Cur_move.j0 : Nat → Int → List Int → Int → Int → ByteArray → Int → Option (ByteArray × Int × List Int × Int × Int)
  | 0, _, _, _, _, _, _ => none
  | k + 1, x4, x1000, x1001, x1002, x133000, x133001 => spec_l1Cur_move.l0 k x4 x1000 x1001 x1002 x133000 x133001
def spec_l1Cur_move.l0 : Nat → Int → List Int → Int → Int → ByteArray → Int → Option (ByteArray × Int × List Int × Int × Int)
  | 0, _, _, _, _, _, _ => none
  | k + 1, x4, x1000, x1001, x1002, x133000, x133001 => if (x133000.size : Int) < x4 then ((spec_l1Cur_of.f x1000 x1001 x1002 (([(⟨#[117]⟩ : ByteArray), (⟨#[100]⟩ : ByteArray), (⟨#[108]⟩ : ByteArray), (⟨#[114]⟩ : ByteArray), (⟨#[108]⟩ : ByteArray), (⟨#[114]⟩ : ByteArray), (⟨#[102]⟩ : ByteArray), (⟨#[98]⟩ : ByteArray)] : List ByteArray))).bind fun bt143 => (if x133000.size + bt143.1.size ≤ 9223372036854775807 then (spec_l1Cur_move.l0 k x4 bt143.2.1 bt143.2.2.1 bt143.2.2.2 (x133000 ++ bt143.1) x133001) else (none))) else (if x4 = 4 then ((spec_l1Cur_one.f x1000 x1001 x1002 2).bind fun bt147 => (if bt147.1 = true then (if 0 ≤ 2 then (if 2 ≤ (x133000.size : Int) then (if 0 ≤ 2 then (if 2 ≤ (x133000.size : Int) then (if (x133000.extract 0 2).size + (x133000.extract 0 2).size ≤ 9223372036854775807 then (some ((x133000.extract 0 2) ++ (x133000.extract 0 2), x133001, bt147.2.1, bt147.2.2.1, bt147.2.2.2)) else (none)) else (none)) else (none)) else (none)) else (none)) else (some (x133000, x133001, bt147.2.1, bt147.2.2.1, bt147.2.2.2)))) else (some (x133000, x133001, x1000, x1001, x1002)))
end

def spec_l1Cur_move.f (k : Nat) (s0_0 : List Int) (s0_1 : Int) (s0_2 : Int) : Option (ByteArray × Int × List Int × Int × Int) := (spec_l1Cur_among.f s0_0 s0_1 s0_2 (([1, 1, 2, 3] : List Int))).bind fun bt128 => ((spec_l1Cur_among.f bt128.2.1 bt128.2.2.1 bt128.2.2.2 (([0, 1, 2, 2, 3, 4, 6] : List Int))).bind fun bt136 => (if bt136.1 = 0 then (spec_l1Cur_move.l0 k bt136.1 bt136.2.1 bt136.2.2.1 bt136.2.2.2 (⟨#[]⟩ : ByteArray) 1) else (spec_l1Cur_move.l0 k bt136.1 bt136.2.1 bt136.2.2.1 bt136.2.2.2 (⟨#[]⟩ : ByteArray) bt128.1)))

theorem spec_l1Cur_move.mono_l : ∀ k, (∀ y0 y1 y2 y3 y4 y5, LeO (spec_l1Cur_move.j0 k y0 y1 y2 y3 y4 y5) (spec_l1Cur_move.j0 (k + 1) y0 y1 y2 y3 y4 y5)) ∧ (∀ y0 y1 y2 y3 y4 y5, LeO (spec_l1Cur_move.l0 k y0 y1 y2 y3 y4 y5) (spec_l1Cur_move.l0 (k + 1) y0 y1 y2 y3 y4 y5))
  | 0 => ⟨fun _ _ _ _ _ _ r h => by simp [spec_l1Cur_move.j0] at h, fun _ _ _ _ _ _ r h => by simp [spec_l1Cur_move.l0] at h⟩
  | k + 1 => by
    obtain ⟨ih0, ih1⟩ := spec_l1Cur_move.mono_l k
    refine ⟨?_, ?_⟩
    · intro y0 y1 y2 y3 y4 y5
      unfold spec_l1Cur_move.j0
      repeat' first
      | (with_reducible exact ih0 _ _ _ _ _ _)
      | (with_reducible exact ih1 _ _ _ _ _ _)
      | (with_reducible exact LeO.refl _)
      | (with_reducible exact LeO.none _)
      | (with_reducible refine LeO.ite ?_ ?_)
      | (with_reducible refine LeO.bind ?_ (fun _ => ?_))
      | exact ih0 _ _ _ _ _ _
      | exact ih1 _ _ _ _ _ _
      | exact LeO.none _
      | refine LeO.ite ?_ ?_
      | refine LeO.bind ?_ (fun _ => ?_)
    · intro y0 y1 y2 y3 y4 y5
      unfold spec_l1Cur_move.l0
      repeat' first
      | (with_reducible exact ih0 _ _ _ _ _ _)
      | (with_reducible exact ih1 _ _ _ _ _ _)
      | (with_reducible exact LeO.refl _)
      | (with_reducible exact LeO.none _)
      | (with_reducible refine LeO.ite ?_ ?_)
      | (with_reducible refine LeO.bind ?_ (fun _ => ?_))
      | exact ih0 _ _ _ _ _ _
      | exact ih1 _ _ _ _ _ _
      | exact LeO.none _
      | refine LeO.ite ?_ ?_
      | refine LeO.bind ?_ (fun _ => ?_)

theorem spec_l1Cur_move.mono : ∀ a0 a1 a2 k, LeO (spec_l1Cur_move.f k a0 a1 a2) (spec_l1Cur_move.f (k + 1) a0 a1 a2) := by
  intro a0 a1 a2 k
  obtain ⟨ih0, ih1⟩ := spec_l1Cur_move.mono_l k
  unfold spec_l1Cur_move.f
  repeat' first
      | (with_reducible exact ih0 _ _ _ _ _ _)
      | (with_reducible exact ih1 _ _ _ _ _ _)
      | (with_reducible exact LeO.refl _)
      | (with_reducible exact LeO.none _)
      | (with_reducible refine LeO.ite ?_ ?_)
      | (with_reducible refine LeO.bind ?_ (fun _ => ?_))
      | exact ih0 _ _ _ _ _ _
      | exact ih1 _ _ _ _ _ _
      | exact LeO.none _
      | refine LeO.ite ?_ ?_
      | refine LeO.bind ?_ (fun _ => ?_)

def spec_l1Cur_move.e (k : Nat) : Refl.Ent G := ⟨50, [(.wr 1000000 49 gL0)], .one (.agg [.str, li]), fun x => spec_l1Cur_move.f k x.1 x.2.1 x.2.2⟩
def spec_l1Cur_move.pl0 : Refl.Pn G (Refl.PT G (spec_l1Cur_move.e 0).ol) := ⟨true, 0, ⟨[(4, .v (.c li)), (0, .box 1000000 0), (3, .box 3 0), (2, .box 2 0)], [(1000000, 49, gL1), (3, 24, gL2), (2, 24, gL3)]⟩, fun k x => spec_l1Cur_move.l0 k x.1 x.2.1 x.2.2.1 x.2.2.2.1 x.2.2.2.2.1 x.2.2.2.2.2⟩
theorem spec_l1Cur_move.ok (k : Nat) : Refl.EntOK Tryz.prog (spec_l1Cur_move.e k) := Refl.ent_ok 1000000 k GC (fun k => [spec_l1Cur_among.e k, spec_l1Cur_of.e k, spec_l1Cur_one.e k]) (fun k => ⟨spec_l1Cur_among.ok k, spec_l1Cur_of.ok k, spec_l1Cur_one.ok k, trivial⟩) Tryz.func50 (by kernel_rfl) [spec_l1Cur_move.pl0] (ps := [spec_l1Cur_move.pl0]) (by kernel_rfl) ⟨⟨fun x => by kernel_rfl, fun k x => by kernel_rfl⟩, trivial⟩ (fun x => by kernel_rfl)

/-! ### spec_l1Cur_anyMove: function 32 -/

def spec_l1Cur_anyMove.f (k : Nat) (s0_0 : List Int) (s0_1 : Int) (s0_2 : Int) : Option (ByteArray × Int × List Int × Int × Int) := (spec_l1Cur_move.f k s0_0 s0_1 s0_2).bind fun bt152 => ((spec_l1Cur_pick.f bt152.2.2.1 bt152.2.2.2.1 bt152.2.2.2.2 30).bind fun bt158 => (if bt158.1 = 0 then ((spec_l1Cur_among.f bt158.2.1 bt158.2.2.1 bt158.2.2.2 (([0, 4, (-9223372036854775808)] : List Int))).bind fun bt165 => (some (bt152.1, bt165.1, bt165.2.1, bt165.2.2.1, bt165.2.2.2))) else (if bt158.1 = 1 then ((spec_l1Cur_of.f bt158.2.1 bt158.2.2.1 bt158.2.2.2 (([(⟨#[120]⟩ : ByteArray), (⟨#[117, 117, 117, 117, 117, 117, 117]⟩ : ByteArray), (⟨#[85]⟩ : ByteArray)] : List ByteArray))).bind fun bt172 => (if bt152.1.size + bt172.1.size ≤ 9223372036854775807 then (some (bt152.1 ++ bt172.1, bt152.2.1, bt172.2.1, bt172.2.2.1, bt172.2.2.2)) else (none))) else (if bt158.1 = 2 then (some ((⟨#[]⟩ : ByteArray), 2, bt158.2.1, bt158.2.2.1, bt158.2.2.2)) else (some (bt152.1, bt152.2.1, bt158.2.1, bt158.2.2.1, bt158.2.2.2))))))

theorem spec_l1Cur_anyMove.mono : ∀ a0 a1 a2 k, LeO (spec_l1Cur_anyMove.f k a0 a1 a2) (spec_l1Cur_anyMove.f (k + 1) a0 a1 a2) := by
  intro a0 a1 a2 k
  unfold spec_l1Cur_anyMove.f
  repeat' first
      | (with_reducible exact spec_l1Cur_move.mono _ _ _ _)
      | (with_reducible exact LeO.refl _)
      | (with_reducible exact LeO.none _)
      | (with_reducible refine LeO.ite ?_ ?_)
      | (with_reducible refine LeO.bind ?_ (fun _ => ?_))
      | exact spec_l1Cur_move.mono _ _ _ _
      | exact LeO.none _
      | refine LeO.ite ?_ ?_
      | refine LeO.bind ?_ (fun _ => ?_)

def spec_l1Cur_anyMove.e (k : Nat) : Refl.Ent G := ⟨32, [(.wr 1000000 49 gL0)], .one (.agg [.str, li]), fun x => spec_l1Cur_anyMove.f k x.1 x.2.1 x.2.2⟩
theorem spec_l1Cur_anyMove.ok (k : Nat) : Refl.EntOK Tryz.prog (spec_l1Cur_anyMove.e k) := Refl.ent_ok 1000000 k GC (fun k => [spec_l1Cur_move.e k, spec_l1Cur_pick.e k, spec_l1Cur_among.e k, spec_l1Cur_of.e k]) (fun k => ⟨spec_l1Cur_move.ok k, spec_l1Cur_pick.ok k, spec_l1Cur_among.ok k, spec_l1Cur_of.ok k, trivial⟩) Tryz.func32 (by kernel_rfl) [] (ps := []) (by kernel_rfl) trivial (fun x => by kernel_rfl)

/-! ### spec_DrawIsMove: function 19 -/

def spec_DrawIsMove.f (k : Nat) (l0 : List Int) : Option (ByteArray × Int) := (spec_l1Cur_anyMove.f k l0 0 0).bind fun bt178 => (some (bt178.1, bt178.2.1))

theorem spec_DrawIsMove.mono : ∀ a0 k, LeO (spec_DrawIsMove.f k a0) (spec_DrawIsMove.f (k + 1) a0) := by
  intro a0 k
  unfold spec_DrawIsMove.f
  repeat' first
      | (with_reducible exact spec_l1Cur_anyMove.mono _ _ _ _)
      | (with_reducible exact LeO.refl _)
      | (with_reducible exact LeO.none _)
      | (with_reducible refine LeO.ite ?_ ?_)
      | (with_reducible refine LeO.bind ?_ (fun _ => ?_))
      | exact spec_l1Cur_anyMove.mono _ _ _ _
      | exact LeO.none _
      | refine LeO.ite ?_ ?_
      | refine LeO.bind ?_ (fun _ => ?_)

def spec_DrawIsMove.e (k : Nat) : Refl.Ent G := ⟨19, [(.c (.row 5 false))], .one (.agg [.str, li]), fun x => spec_DrawIsMove.f k x⟩
theorem spec_DrawIsMove.ok (k : Nat) : Refl.EntOK Tryz.prog (spec_DrawIsMove.e k) := Refl.ent_ok 1000000 k GC (fun k => [spec_l1Cur_anyMove.e k]) (fun k => ⟨spec_l1Cur_anyMove.ok k, trivial⟩) Tryz.func19 (by kernel_rfl) [] (ps := []) (by kernel_rfl) trivial (fun x => by kernel_rfl)

/-! ### spec_DrawEndOfMove: function 4 -/

def spec_DrawEndOfMove.f (k : Nat) (l0 : List Int) : Option (ByteArray × Int) := (spec_DrawIsMove.f k l0).bind fun bt184 => (some (bt184.1, bt184.2))

theorem spec_DrawEndOfMove.mono : ∀ a0 k, LeO (spec_DrawEndOfMove.f k a0) (spec_DrawEndOfMove.f (k + 1) a0) := by
  intro a0 k
  unfold spec_DrawEndOfMove.f
  repeat' first
      | (with_reducible exact spec_DrawIsMove.mono _ _)
      | (with_reducible exact LeO.refl _)
      | (with_reducible exact LeO.none _)
      | (with_reducible refine LeO.ite ?_ ?_)
      | (with_reducible refine LeO.bind ?_ (fun _ => ?_))
      | exact spec_DrawIsMove.mono _ _
      | exact LeO.none _
      | refine LeO.ite ?_ ?_
      | refine LeO.bind ?_ (fun _ => ?_)

def spec_DrawEndOfMove.e (k : Nat) : Refl.Ent G := ⟨4, [(.c (.row 5 false))], .one (.agg [.str, li]), fun x => spec_DrawEndOfMove.f k x⟩
theorem spec_DrawEndOfMove.ok (k : Nat) : Refl.EntOK Tryz.prog (spec_DrawEndOfMove.e k) := Refl.ent_ok 1000000 k GC (fun k => [spec_DrawIsMove.e k]) (fun k => ⟨spec_DrawIsMove.ok k, trivial⟩) Tryz.func4 (by kernel_rfl) [] (ps := []) (by kernel_rfl) trivial (fun x => by kernel_rfl)

/-! ### strings_IndexByte: function 28 -/

def strings_IndexByte.f (a0 : ByteArray) (a1 : Int) : Option Int := some (Lib.indexByte a0.data.toList a1.toNat.toUInt8)
theorem strings_IndexByte.calls (a0 : ByteArray) (a1 : Int) (r : Int) (w : World) (h : strings_IndexByte.f a0 a1 = some r) :
    Calls Tryz.prog 28 #[.string a0, .int .u8 a1] w fun e w' => e = .returned (.int .i64 r) ∧ Drawn0 w w' := by
  obtain rfl := Option.some.inj h
  exact (Tryz.strings_IndexByte a0 a1 w).mono fun e w' ⟨he, hw⟩ => ⟨he, hw ▸ Drawn0.refl _⟩

def strings_IndexByte.e (k : Nat) : Refl.Ent G := ⟨28, [(.c .str), (.c (.int .u8))], .one (.c li), fun x => strings_IndexByte.f x.1 x.2⟩
theorem strings_IndexByte.ok (k : Nat) : Refl.EntOK Tryz.prog (strings_IndexByte.e k) := Refl.entOK_hand Tryz.func28 (by kernel_rfl) (fun x => by kernel_rfl) (fun y => ⟨by kernel_rfl, by kernel_rfl, by kernel_rfl, by kernel_rfl⟩) (fun x y h w => (strings_IndexByte.calls x.1 x.2 y w h).mono fun e w' hh => ⟨hh.1, hh.2.below⟩)

/-! ### impl_hasOnly: function 36 -/

def impl_hasOnly.l0 : Nat → ByteArray → ByteArray → Int → Int → Option (Bool)
  | 0, _, _, _, _ => none
  | k + 1, x0, x1, x7, x8 => if x8 < x7 then (if 0 ≤ x8 then (if x8 < (x0.size : Int) then ((strings_IndexByte.f x1 (bt x0 x8)).bind fun t186 => (if t186 < 0 then (some false) else (impl_hasOnly.l0 k x0 x1 x7 (wrap64 (x8 + 1))))) else (none)) else (none)) else (some true)

def impl_hasOnly.f (k : Nat) (a0 : ByteArray) (a1 : ByteArray) : Option (Bool) := impl_hasOnly.l0 k a0 a1 (a0.size : Int) 0

theorem impl_hasOnly.mono_l : ∀ k, (∀ y0 y1 y2 y3, LeO (impl_hasOnly.l0 k y0 y1 y2 y3) (impl_hasOnly.l0 (k + 1) y0 y1 y2 y3))
  | 0 => fun _ _ _ _ r h => by simp [impl_hasOnly.l0] at h
  | k + 1 => by
    have ih0 := impl_hasOnly.mono_l k
    · intro y0 y1 y2 y3
      unfold impl_hasOnly.l0
      repeat' first
      | (with_reducible exact ih0 _ _ _ _)
      | (with_reducible exact LeO.refl _)
      | (with_reducible exact LeO.none _)
      | (with_reducible refine LeO.ite ?_ ?_)
      | (with_reducible refine LeO.bind ?_ (fun _ => ?_))
      | exact ih0 _ _ _ _
      | exact LeO.none _
      | refine LeO.ite ?_ ?_
      | refine LeO.bind ?_ (fun _ => ?_)

theorem impl_hasOnly.mono : ∀ a0 a1 k, LeO (impl_hasOnly.f k a0 a1) (impl_hasOnly.f (k + 1) a0 a1) := by
  intro a0 a1 k
  have ih0 := impl_hasOnly.mono_l k
  unfold impl_hasOnly.f
  repeat' first
      | (with_reducible exact ih0 _ _ _ _)
      | (with_reducible exact LeO.refl _)
      | (with_reducible exact LeO.none _)
      | (with_reducible refine LeO.ite ?_ ?_)
      | (with_reducible refine LeO.bind ?_ (fun _ => ?_))
      | exact ih0 _ _ _ _
      | exact LeO.none _
      | refine LeO.ite ?_ ?_
      | refine LeO.bind ?_ (fun _ => ?_)

def impl_hasOnly.e (k : Nat) : Refl.Ent G := ⟨36, [(.c .str), (.c .str)], .one (.c .bool), fun x => impl_hasOnly.f k x.1 x.2⟩
def impl_hasOnly.pl0 : Refl.Pn G (Refl.PT G (impl_hasOnly.e 0).ol) := ⟨true, 0, ⟨[(0, .v (.c .str)), (1, .v (.c .str)), (7, .v (.c li)), (8, .v (.c li)), (4, .k (Value.bool false))], []⟩, fun k x => impl_hasOnly.l0 k x.1 x.2.1 x.2.2.1 x.2.2.2⟩
theorem impl_hasOnly.ok (k : Nat) : Refl.EntOK Tryz.prog (impl_hasOnly.e k) := Refl.ent_ok 1000000 k GC (fun k => [strings_IndexByte.e k]) (fun k => ⟨strings_IndexByte.ok k, trivial⟩) Tryz.func36 (by kernel_rfl) [impl_hasOnly.pl0] (ps := [impl_hasOnly.pl0]) (by kernel_rfl) ⟨⟨fun x => by kernel_rfl, fun k x => by kernel_rfl⟩, trivial⟩ (fun x => by kernel_rfl)

/-! ### impl_within: function 37 -/

-- JOINS  | BOXES 
def impl_within.f (a0 : Int) (a1 : Int) (a2 : Int) : Option (Bool) := if a0 ≥ a1 then (some (decide (a0 ≤ a2))) else (some false)
set_option maxHeartbeats 8000000 in
set_option maxRecDepth 100000 in
theorem impl_within.calls (a0 : Int) (a1 : Int) (a2 : Int) (r : Bool) (w : World) (h : impl_within.f a0 a1 a2 = some r) :
    Calls Tryz.prog 37 #[.int .i64 a0, .int .i64 a1, .int .i64 a2] w fun e w' => e = .returned (.bool r) ∧ Drawn0 w w' := by
  have H : (if a0 ≥ a1 then (some (decide (a0 ≤ a2))) else (some false)) = some r := h
  clear h
  by_cases c4 : a0 ≥ a1
  · rw [if_pos c4] at H
    have c4b0 : decide (a1 ≤ a0) = true := decide_eq_true c4
    clear c4
    obtain rfl := Option.some.inj H
    go_enter Tryz.func37, Tryz.ntmps37
    go_wp2
    go_ret
    exact ⟨by first | rfl | (simp; done) | (simp [*]; done), by repeat (first | exact Drawn0.refl _ | apply Drawn0.step)⟩
  · rw [if_neg c4] at H
    have c4b0 : decide (a1 ≤ a0) = false := decide_eq_false c4
    clear c4
    obtain rfl := Option.some.inj H
    go_enter Tryz.func37, Tryz.ntmps37
    go_wp2
    go_ret
    exact ⟨by first | rfl | (simp; done) | (simp [*]; done), by repeat (first | exact Drawn0.refl _ | apply Drawn0.step)⟩

def impl_within.e (k : Nat) : Refl.Ent G := ⟨37, [(.c li), (.c li), (.c li)], .one (.c .bool), fun x => impl_within.f x.1 x.2.1 x.2.2⟩
theorem impl_within.ok (k : Nat) : Refl.EntOK Tryz.prog (impl_within.e k) := Refl.ent_ok 1000000 k GC (fun k => []) (fun k => trivial) Tryz.func37 (by kernel_rfl) [] (ps := []) (by kernel_rfl) trivial (fun x => by kernel_rfl)

/-! ### impl_IsMove: function 20 -/

def impl_IsMove.f (k : Nat) (a0_0 : ByteArray) (a0_1 : Int) : Option (Bool) := if (a0_0.size : Int) ≤ 6 then ((impl_hasOnly.f k a0_0 (⟨#[117, 100, 108, 114, 102, 98]⟩ : ByteArray)).bind fun t188 => (if t188 = true then ((impl_within.f a0_1 1 3).bind fun t189 => (if t189 = true then (if a0_0.toList = ([] : List UInt8) then (some (a0_1 == 1)) else (some true)) else (some false))) else (some false))) else (some false)

theorem impl_IsMove.mono : ∀ a0 a1 k, LeO (impl_IsMove.f k a0 a1) (impl_IsMove.f (k + 1) a0 a1) := by
  intro a0 a1 k
  unfold impl_IsMove.f
  repeat' first
      | (with_reducible exact impl_hasOnly.mono _ _ _)
      | (with_reducible exact LeO.refl _)
      | (with_reducible exact LeO.none _)
      | (with_reducible refine LeO.ite ?_ ?_)
      | (with_reducible refine LeO.bind ?_ (fun _ => ?_))
      | exact impl_hasOnly.mono _ _ _
      | exact LeO.none _
      | refine LeO.ite ?_ ?_
      | refine LeO.bind ?_ (fun _ => ?_)

def impl_IsMove.e (k : Nat) : Refl.Ent G := ⟨20, [(.agg [.str, li])], .one (.c .bool), fun x => impl_IsMove.f k x.1 x.2⟩
theorem impl_IsMove.ok (k : Nat) : Refl.EntOK Tryz.prog (impl_IsMove.e k) := Refl.ent_ok 1000000 k GC (fun k => [impl_hasOnly.e k, impl_within.e k]) (fun k => ⟨impl_hasOnly.ok k, impl_within.ok k, trivial⟩) Tryz.func20 (by kernel_rfl) [] (ps := []) (by kernel_rfl) trivial (fun x => by kernel_rfl)

theorem impl_IsMove.calls (k : Nat) (a0_0 : ByteArray) (a0_1 : Int) (r : Bool) (w : World) (h : impl_IsMove.f k a0_0 a0_1 = some r) :
    Calls Tryz.prog 20 #[.agg #[.string a0_0, .int .i64 a0_1]] w fun e w' => e = .returned (.bool r) ∧ Below w.heap.size w w' :=
 Refl.EntOK.flat (impl_IsMove.ok k) (a0_0, a0_1) r h (by kernel_rfl) (by kernel_rfl) (by kernel_rfl) (by kernel_rfl) w

/-! ### strings_Repeat: function 41 -/

def strings_Repeat.f (a0 : ByteArray) (a1 : Int) : Option ByteArray :=
  if 0 ≤ a1 ∧ a1 ≤ 9223372036854775807 ∧ a0.size * a1.toNat ≤ 140737488355328 then some ⟨(Lib.repeatL a0.data.toList a1.toNat).toArray⟩ else none
theorem strings_Repeat.calls (a0 : ByteArray) (a1 : Int) (r : ByteArray) (w : World) (h : strings_Repeat.f a0 a1 = some r) :
    Calls Tryz.prog 41 #[.string a0, .int .i64 a1] w fun e w' => e = .returned (.string r) ∧ Below w.heap.size w w' := by
  unfold strings_Repeat.f at h
  split at h
  · rename_i hc
    obtain rfl := Option.some.inj h
    obtain ⟨c, rfl⟩ := Int.eq_ofNat_of_zero_le hc.1
    exact Tryz.strings_Repeat a0 c w (by omega) (by simpa using hc.2.2)
  · exact absurd h (by simp)

def strings_Repeat.e (k : Nat) : Refl.Ent G := ⟨41, [(.c .str), (.c li)], .one (.c .str), fun x => strings_Repeat.f x.1 x.2⟩
theorem strings_Repeat.ok (k : Nat) : Refl.EntOK Tryz.prog (strings_Repeat.e k) := Refl.entOK_hand Tryz.func41 (by kernel_rfl) (fun x => by kernel_rfl) (fun y => ⟨by kernel_rfl, by kernel_rfl, by kernel_rfl, by kernel_rfl⟩) (fun x y h w => (strings_Repeat.calls x.1 x.2 y w h).mono fun e w' hh => ⟨hh.1, hh.2⟩)

/-! ### impl_Move_all: function 23 -/

def impl_Move_all.f (a0_0 : ByteArray) (a0_1 : Int) : Option (ByteArray) := (strings_Repeat.f a0_0 a0_1).bind fun t191 => (some t191)

def impl_Move_all.e (k : Nat) : Refl.Ent G := ⟨23, [(.agg [.str, li])], .one (.c .str), fun x => impl_Move_all.f x.1 x.2⟩
theorem impl_Move_all.ok (k : Nat) : Refl.EntOK Tryz.prog (impl_Move_all.e k) := Refl.ent_ok 1000000 k GC (fun k => [strings_Repeat.e k]) (fun k => ⟨strings_Repeat.ok k, trivial⟩) Tryz.func23 (by kernel_rfl) [] (ps := []) (by kernel_rfl) trivial (fun x => by kernel_rfl)

/-! ### strings_Count: function 22 -/

def strings_Count.f (a0 : ByteArray) (a1 : ByteArray) : Option Int := if a1.size = 1 then some (Lib.countByte a0.data.toList (a1.data.getD 0 0)) else none
theorem strings_Count.calls (a0 : ByteArray) (a1 : ByteArray) (r : Int) (w : World) (h : strings_Count.f a0 a1 = some r) :
    Calls Tryz.prog 22 #[.string a0, .string a1] w fun e w' => e = .returned (.int .i64 r) ∧ Drawn0 w w' := by
  unfold strings_Count.f at h
  split at h
  · rename_i hc
    obtain rfl := Option.some.inj h
    obtain ⟨⟨l⟩⟩ := a1
    match l, hc with
    | [c], _ => exact (Tryz.strings_Count_one a0 c w).mono fun e w' ⟨he, hw⟩ => ⟨he, hw ▸ Drawn0.refl _⟩
  · exact absurd h (by simp)

def strings_Count.e (k : Nat) : Refl.Ent G := ⟨22, [(.c .str), (.c .str)], .one (.c li), fun x => strings_Count.f x.1 x.2⟩
theorem strings_Count.ok (k : Nat) : Refl.EntOK Tryz.prog (strings_Count.e k) := Refl.entOK_hand Tryz.func22 (by kernel_rfl) (fun x => by kernel_rfl) (fun y => ⟨by kernel_rfl, by kernel_rfl, by kernel_rfl, by kernel_rfl⟩) (fun x y h w => (strings_Count.calls x.1 x.2 y w h).mono fun e w' hh => ⟨hh.1, hh.2.below⟩)

/-! ### impl_EndOfMove: function 5 -/

def em1.f (a0 : ByteArray) (a1 : ByteArray) (a2 : ByteArray) (a3 : Int) : Option Int := (impl_Move_all.f a2 a3).bind fun a => (strings_Count.f a a0).bind fun x => (impl_Move_all.f a2 a3).bind fun b => (strings_Count.f b a1).bind fun y => some (wrap64 (x - y))

def impl_EndOfMove.f (k : Nat) (a0_0 : ByteArray) (a0_1 : Int) : Option (Int × Int × Int × Bool) :=
  (impl_IsMove.f k a0_0 a0_1).bind fun t => if t = true then ((em1.f (⟨#[114]⟩ : ByteArray) (⟨#[108]⟩ : ByteArray) a0_0 a0_1).bind fun x => (em1.f (⟨#[117]⟩ : ByteArray) (⟨#[100]⟩ : ByteArray) a0_0 a0_1).bind fun y => (em1.f (⟨#[102]⟩ : ByteArray) (⟨#[98]⟩ : ByteArray) a0_0 a0_1).bind fun z => some (x, y, z, true)) else some (0, 0, 0, false)

theorem impl_EndOfMove.mono : ∀ a0 a1 k, LeO (impl_EndOfMove.f k a0 a1) (impl_EndOfMove.f (k + 1) a0 a1) := by
  intro a0 a1 k
  unfold impl_EndOfMove.f
  exact LeO.bind (impl_IsMove.mono _ _ _) (fun _ => LeO.refl _)

def impl_EndOfMove.e (k : Nat) : Refl.Ent G := ⟨5, [(.agg [.str, li])], .tup [(.c li), (.c li), (.c li), (.c .bool)], fun x => impl_EndOfMove.f k x.1 x.2⟩
def em1.e (k : Nat) : Refl.Ent G := ⟨21, [.c .str, .c .str, .ref [.str, li]], .one (.c li), fun x => em1.f x.1 x.2.1 x.2.2.1 x.2.2.2⟩
theorem em1.ok (k : Nat) : Refl.EntOK Tryz.prog (em1.e k) := Refl.ent_ok 1000000 k GC (fun k => [impl_Move_all.e k, strings_Count.e k]) (fun k => ⟨impl_Move_all.ok k, strings_Count.ok k, trivial⟩) Tryz.func21 (by kernel_rfl) [] (ps := []) (by kernel_rfl) trivial (fun x => by kernel_rfl)
theorem impl_EndOfMove.ok (k : Nat) : Refl.EntOK Tryz.prog (impl_EndOfMove.e k) := Refl.ent_ok 1000000 k GC (fun k => [impl_IsMove.e k, em1.e k]) (fun k => ⟨impl_IsMove.ok k, em1.ok k, trivial⟩) Tryz.func5 (by kernel_rfl) [] (ps := []) (by kernel_rfl) trivial (fun x => by kernel_rfl)

/-! ### spec_mvLetters: function 47 -/

def spec_mvLetters.f  : Option (ByteArray) := some (⟨#[117, 100, 108, 114, 102, 98]⟩ : ByteArray)

def spec_mvLetters.e (k : Nat) : Refl.Ent G := ⟨47, [], .one (.c .str), fun _ => spec_mvLetters.f ⟩
theorem spec_mvLetters.ok (k : Nat) : Refl.EntOK Tryz.prog (spec_mvLetters.e k) := Refl.ent_ok 1000000 k GC (fun k => []) (fun k => trivial) Tryz.func47 (by kernel_rfl) [] (ps := []) (by kernel_rfl) trivial (fun x => by kernel_rfl)

/-! ### spec_mvIndex: function 46 -/

def spec_mvIndex.l0 : Nat → Int → Int → Option (Int)
  | 0, _, _ => none
  | k + 1, x0, x3 => (spec_mvLetters.f).bind fun t192 => (if x3 < (t192.size : Int) then ((spec_mvLetters.f).bind fun t193 => (if 0 ≤ x3 then (if x3 < (t193.size : Int) then (if (bt t193 x3) = x0 then (some x3) else (spec_mvIndex.l0 k x0 (wrap64 (x3 + 1)))) else (none)) else (none))) else (some (-1)))

def spec_mvIndex.f (k : Nat) (a0 : Int) : Option (Int) := spec_mvIndex.l0 k a0 0

theorem spec_mvIndex.mono_l : ∀ k, (∀ y0 y1, LeO (spec_mvIndex.l0 k y0 y1) (spec_mvIndex.l0 (k + 1) y0 y1))
  | 0 => fun _ _ r h => by simp [spec_mvIndex.l0] at h
  | k + 1 => by
    have ih0 := spec_mvIndex.mono_l k
    · intro y0 y1
      unfold spec_mvIndex.l0
      repeat' first
      | (with_reducible exact ih0 _ _)
      | (with_reducible exact LeO.refl _)
      | (with_reducible exact LeO.none _)
      | (with_reducible refine LeO.ite ?_ ?_)
      | (with_reducible refine LeO.bind ?_ (fun _ => ?_))
      | exact ih0 _ _
      | exact LeO.none _
      | refine LeO.ite ?_ ?_
      | refine LeO.bind ?_ (fun _ => ?_)

theorem spec_mvIndex.mono : ∀ a0 k, LeO (spec_mvIndex.f k a0) (spec_mvIndex.f (k + 1) a0) := by
  intro a0 k
  have ih0 := spec_mvIndex.mono_l k
  unfold spec_mvIndex.f
  repeat' first
      | (with_reducible exact ih0 _ _)
      | (with_reducible exact LeO.refl _)
      | (with_reducible exact LeO.none _)
      | (with_reducible refine LeO.ite ?_ ?_)
      | (with_reducible refine LeO.bind ?_ (fun _ => ?_))
      | exact ih0 _ _
      | exact LeO.none _
      | refine LeO.ite ?_ ?_
      | refine LeO.bind ?_ (fun _ => ?_)

def spec_mvIndex.e (k : Nat) : Refl.Ent G := ⟨46, [(.c (.int .u8))], .one (.c li), fun x => spec_mvIndex.f k x⟩
def spec_mvIndex.pl0 : Refl.Pn G (Refl.PT G (spec_mvIndex.e 0).ol) := ⟨true, 0, ⟨[(0, .v (.c (.int .u8))), (3, .v (.c li)), (2, .k (Value.int IntKind.i64 0))], []⟩, fun k x => spec_mvIndex.l0 k x.1 x.2⟩
theorem spec_mvIndex.ok (k : Nat) : Refl.EntOK Tryz.prog (spec_mvIndex.e k) := Refl.ent_ok 1000000 k GC (fun k => [spec_mvLetters.e k]) (fun k => ⟨spec_mvLetters.ok k, trivial⟩) Tryz.func46 (by kernel_rfl) [spec_mvIndex.pl0] (ps := [spec_mvIndex.pl0]) (by kernel_rfl) ⟨⟨fun x => by kernel_rfl, fun k x => by kernel_rfl⟩, trivial⟩ (fun x => by kernel_rfl)

/-! ### spec_mvSteps: function 42 -/

def spec_mvSteps.l0 : Nat → ByteArray → Int → Option (Bool)
  | 0, _, _ => none
  | k + 1, x0, x3 => if x3 < (x0.size : Int) then (if 0 ≤ x3 then (if x3 < (x0.size : Int) then ((spec_mvIndex.f k (bt x0 x3)).bind fun t194 => (if t194 < 0 then (some false) else (spec_mvSteps.l0 k x0 (wrap64 (x3 + 1))))) else (none)) else (none)) else (some true)

def spec_mvSteps.f (k : Nat) (a0 : ByteArray) : Option (Bool) := spec_mvSteps.l0 k a0 0

theorem spec_mvSteps.mono_l : ∀ k, (∀ y0 y1, LeO (spec_mvSteps.l0 k y0 y1) (spec_mvSteps.l0 (k + 1) y0 y1))
  | 0 => fun _ _ r h => by simp [spec_mvSteps.l0] at h
  | k + 1 => by
    have ih0 := spec_mvSteps.mono_l k
    · intro y0 y1
      unfold spec_mvSteps.l0
      repeat' first
      | (with_reducible exact ih0 _ _)
      | (with_reducible exact spec_mvIndex.mono _ _)
      | (with_reducible exact LeO.refl _)
      | (with_reducible exact LeO.none _)
      | (with_reducible refine LeO.ite ?_ ?_)
      | (with_reducible refine LeO.bind ?_ (fun _ => ?_))
      | exact ih0 _ _
      | exact spec_mvIndex.mono _ _
      | exact LeO.none _
      | refine LeO.ite ?_ ?_
      | refine LeO.bind ?_ (fun _ => ?_)

theorem spec_mvSteps.mono : ∀ a0 k, LeO (spec_mvSteps.f k a0) (spec_mvSteps.f (k + 1) a0) := by
  intro a0 k
  have ih0 := spec_mvSteps.mono_l k
  unfold spec_mvSteps.f
  repeat' first
      | (with_reducible exact ih0 _ _)
      | (with_reducible exact spec_mvIndex.mono _ _)
      | (with_reducible exact LeO.refl _)
      | (with_reducible exact LeO.none _)
      | (with_reducible refine LeO.ite ?_ ?_)
      | (with_reducible refine LeO.bind ?_ (fun _ => ?_))
      | exact ih0 _ _
      | exact spec_mvIndex.mono _ _
      | exact LeO.none _
      | refine LeO.ite ?_ ?_
      | refine LeO.bind ?_ (fun _ => ?_)

def spec_mvSteps.e (k : Nat) : Refl.Ent G := ⟨42, [(.c .str)], .one (.c .bool), fun x => spec_mvSteps.f k x⟩
def spec_mvSteps.pl0 : Refl.Pn G (Refl.PT G (spec_mvSteps.e 0).ol) := ⟨true, 0, ⟨[(0, .v (.c .str)), (3, .v (.c li)), (2, .k (Value.bool false))], []⟩, fun k x => spec_mvSteps.l0 k x.1 x.2⟩
theorem spec_mvSteps.ok (k : Nat) : Refl.EntOK Tryz.prog (spec_mvSteps.e k) := Refl.ent_ok 1000000 k GC (fun k => [spec_mvIndex.e k]) (fun k => ⟨spec_mvIndex.ok k, trivial⟩) Tryz.func42 (by kernel_rfl) [spec_mvSteps.pl0] (ps := [spec_mvSteps.pl0]) (by kernel_rfl) ⟨⟨fun x => by kernel_rfl, fun k x => by kernel_rfl⟩, trivial⟩ (fun x => by kernel_rfl)

/-! ### spec_l1In: function 43 -/

def spec_l1In.f (a0 : Int) (a1 : Int) (a2 : Int) : Option (Bool) := if a0 ≥ a1 then (some (decide (a0 ≤ a2))) else (some false)

def spec_l1In.e (k : Nat) : Refl.Ent G := ⟨43, [(.c li), (.c li), (.c li)], .one (.c .bool), fun x => spec_l1In.f x.1 x.2.1 x.2.2⟩
theorem spec_l1In.ok (k : Nat) : Refl.EntOK Tryz.prog (spec_l1In.e k) := Refl.ent_ok 1000000 k GC (fun k => []) (fun k => trivial) Tryz.func43 (by kernel_rfl) [] (ps := []) (by kernel_rfl) trivial (fun x => by kernel_rfl)

/-! ### spec_mvGood: function 24 -/

def spec_mvGood.f (k : Nat) (a0_0 : ByteArray) (a0_1 : Int) : Option (Bool) := if (a0_0.size : Int) ≤ 6 then ((spec_mvSteps.f k a0_0).bind fun t196 => (if t196 = true then ((spec_l1In.f a0_1 1 3).bind fun t197 => (if t197 = true then (if a0_0.toList = ([] : List UInt8) then (some (a0_1 == 1)) else (some true)) else (some false))) else (some false))) else (some false)

theorem spec_mvGood.mono : ∀ a0 a1 k, LeO (spec_mvGood.f k a0 a1) (spec_mvGood.f (k + 1) a0 a1) := by
  intro a0 a1 k
  unfold spec_mvGood.f
  repeat' first
      | (with_reducible exact spec_mvSteps.mono _ _)
      | (with_reducible exact LeO.refl _)
      | (with_reducible exact LeO.none _)
      | (with_reducible refine LeO.ite ?_ ?_)
      | (with_reducible refine LeO.bind ?_ (fun _ => ?_))
      | exact spec_mvSteps.mono _ _
      | exact LeO.none _
      | refine LeO.ite ?_ ?_
      | refine LeO.bind ?_ (fun _ => ?_)

def spec_mvGood.e (k : Nat) : Refl.Ent G := ⟨24, [(.agg [.str, li])], .one (.c .bool), fun x => spec_mvGood.f k x.1 x.2⟩
theorem spec_mvGood.ok (k : Nat) : Refl.EntOK Tryz.prog (spec_mvGood.e k) := Refl.ent_ok 1000000 k GC (fun k => [spec_mvSteps.e k, spec_l1In.e k]) (fun k => ⟨spec_mvSteps.ok k, spec_l1In.ok k, trivial⟩) Tryz.func24 (by kernel_rfl) [] (ps := []) (by kernel_rfl) trivial (fun x => by kernel_rfl)

/-! ### spec_mvTimes: function 44 -/

def spec_mvTimes.l0 : Nat → ByteArray → Int → ByteArray → Option (ByteArray)
  | 0, _, _, _ => none
  | k + 1, x0, x1, x5 => if x1 > 0 then (if x5.size + x0.size ≤ 9223372036854775807 then (spec_mvTimes.l0 k x0 (wrap64 (x1 - 1)) (x5 ++ x0)) else (none)) else (some x5)

def spec_mvTimes.f (k : Nat) (a0 : ByteArray) (a1 : Int) : Option (ByteArray) := spec_mvTimes.l0 k a0 a1 (⟨#[]⟩ : ByteArray)

theorem spec_mvTimes.mono_l : ∀ k, (∀ y0 y1 y2, LeO (spec_mvTimes.l0 k y0 y1 y2) (spec_mvTimes.l0 (k + 1) y0 y1 y2))
  | 0 => fun _ _ _ r h => by simp [spec_mvTimes.l0] at h
  | k + 1 => by
    have ih0 := spec_mvTimes.mono_l k
    · intro y0 y1 y2
      unfold spec_mvTimes.l0
      repeat' first
      | (with_reducible exact ih0 _ _ _)
      | (with_reducible exact LeO.refl _)
      | (with_reducible exact LeO.none _)
      | (with_reducible refine LeO.ite ?_ ?_)
      | (with_reducible refine LeO.bind ?_ (fun _ => ?_))
      | exact ih0 _ _ _
      | exact LeO.none _
      | refine LeO.ite ?_ ?_
      | refine LeO.bind ?_ (fun _ => ?_)

theorem spec_mvTimes.mono : ∀ a0 a1 k, LeO (spec_mvTimes.f k a0 a1) (spec_mvTimes.f (k + 1) a0 a1) := by
  intro a0 a1 k
  have ih0 := spec_mvTimes.mono_l k
  unfold spec_mvTimes.f
  repeat' first
      | (with_reducible exact ih0 _ _ _)
      | (with_reducible exact LeO.refl _)
      | (with_reducible exact LeO.none _)
      | (with_reducible refine LeO.ite ?_ ?_)
      | (with_reducible refine LeO.bind ?_ (fun _ => ?_))
      | exact ih0 _ _ _
      | exact LeO.none _
      | refine LeO.ite ?_ ?_
      | refine LeO.bind ?_ (fun _ => ?_)

def spec_mvTimes.e (k : Nat) : Refl.Ent G := ⟨44, [(.c .str), (.c li)], .one (.c .str), fun x => spec_mvTimes.f k x.1 x.2⟩
def spec_mvTimes.pl0 : Refl.Pn G (Refl.PT G (spec_mvTimes.e 0).ol) := ⟨true, 0, ⟨[(0, .v (.c .str)), (1, .v (.c li)), (5, .v (.c .str))], []⟩, fun k x => spec_mvTimes.l0 k x.1 x.2.1 x.2.2⟩
theorem spec_mvTimes.ok (k : Nat) : Refl.EntOK Tryz.prog (spec_mvTimes.e k) := Refl.ent_ok 1000000 k GC (fun k => []) (fun k => trivial) Tryz.func44 (by kernel_rfl) [spec_mvTimes.pl0] (ps := [spec_mvTimes.pl0]) (by kernel_rfl) ⟨⟨fun x => by kernel_rfl, fun k x => by kernel_rfl⟩, trivial⟩ (fun x => by kernel_rfl)

/-! ### spec_mvAll: function 25 -/

def spec_mvAll.f (k : Nat) (a0_0 : ByteArray) (a0_1 : Int) : Option (ByteArray) := (spec_mvTimes.f k a0_0 a0_1).bind fun t199 => (some t199)

theorem spec_mvAll.mono : ∀ a0 a1 k, LeO (spec_mvAll.f k a0 a1) (spec_mvAll.f (k + 1) a0 a1) := by
  intro a0 a1 k
  unfold spec_mvAll.f
  repeat' first
      | (with_reducible exact spec_mvTimes.mono _ _ _)
      | (with_reducible exact LeO.refl _)
      | (with_reducible exact LeO.none _)
      | (with_reducible refine LeO.ite ?_ ?_)
      | (with_reducible refine LeO.bind ?_ (fun _ => ?_))
      | exact spec_mvTimes.mono _ _ _
      | exact LeO.none _
      | refine LeO.ite ?_ ?_
      | refine LeO.bind ?_ (fun _ => ?_)

def spec_mvAll.e (k : Nat) : Refl.Ent G := ⟨25, [(.agg [.str, li])], .one (.c .str), fun x => spec_mvAll.f k x.1 x.2⟩
theorem spec_mvAll.ok (k : Nat) : Refl.EntOK Tryz.prog (spec_mvAll.e k) := Refl.ent_ok 1000000 k GC (fun k => [spec_mvTimes.e k]) (fun k => ⟨spec_mvTimes.ok k, trivial⟩) Tryz.func25 (by kernel_rfl) [] (ps := []) (by kernel_rfl) trivial (fun x => by kernel_rfl)

/-! ### spec_mvCount: function 26 -/

def spec_mvCount.l0 : Nat → ByteArray → Int → Int → Int → Option (Int)
  | 0, _, _, _, _ => none
  | k + 1, x0, x1, x5, x6 => if x6 < (x0.size : Int) then (if 0 ≤ x6 then (if x6 < (x0.size : Int) then (if (bt x0 x6) = x1 then (spec_mvCount.l0 k x0 x1 (wrap64 (x5 + 1)) (wrap64 (x6 + 1))) else (spec_mvCount.l0 k x0 x1 x5 (wrap64 (x6 + 1)))) else (none)) else (none)) else (some x5)

def spec_mvCount.f (k : Nat) (a0 : ByteArray) (a1 : Int) : Option (Int) := spec_mvCount.l0 k a0 a1 0 0

theorem spec_mvCount.mono_l : ∀ k, (∀ y0 y1 y2 y3, LeO (spec_mvCount.l0 k y0 y1 y2 y3) (spec_mvCount.l0 (k + 1) y0 y1 y2 y3))
  | 0 => fun _ _ _ _ r h => by simp [spec_mvCount.l0] at h
  | k + 1 => by
    have ih0 := spec_mvCount.mono_l k
    · intro y0 y1 y2 y3
      unfold spec_mvCount.l0
      repeat' first
      | (with_reducible exact ih0 _ _ _ _)
      | (with_reducible exact LeO.refl _)
      | (with_reducible exact LeO.none _)
      | (with_reducible refine LeO.ite ?_ ?_)
      | (with_reducible refine LeO.bind ?_ (fun _ => ?_))
      | exact ih0 _ _ _ _
      | exact LeO.none _
      | refine LeO.ite ?_ ?_
      | refine LeO.bind ?_ (fun _ => ?_)

theorem spec_mvCount.mono : ∀ a0 a1 k, LeO (spec_mvCount.f k a0 a1) (spec_mvCount.f (k + 1) a0 a1) := by
  intro a0 a1 k
  have ih0 := spec_mvCount.mono_l k
  unfold spec_mvCount.f
  repeat' first
      | (with_reducible exact ih0 _ _ _ _)
      | (with_reducible exact LeO.refl _)
      | (with_reducible exact LeO.none _)
      | (with_reducible refine LeO.ite ?_ ?_)
      | (with_reducible refine LeO.bind ?_ (fun _ => ?_))
      | exact ih0 _ _ _ _
      | exact LeO.none _
      | refine LeO.ite ?_ ?_
      | refine LeO.bind ?_ (fun _ => ?_)

def spec_mvCount.e (k : Nat) : Refl.Ent G := ⟨26, [(.c .str), (.c (.int .u8))], .one (.c li), fun x => spec_mvCount.f k x.1 x.2⟩
def spec_mvCount.pl0 : Refl.Pn G (Refl.PT G (spec_mvCount.e 0).ol) := ⟨true, 0, ⟨[(0, .v (.c .str)), (1, .v (.c (.int .u8))), (5, .v (.c li)), (6, .v (.c li)), (4, .k (Value.int IntKind.i64 0))], []⟩, fun k x => spec_mvCount.l0 k x.1 x.2.1 x.2.2.1 x.2.2.2⟩
theorem spec_mvCount.ok (k : Nat) : Refl.EntOK Tryz.prog (spec_mvCount.e k) := Refl.ent_ok 1000000 k GC (fun k => []) (fun k => trivial) Tryz.func26 (by kernel_rfl) [spec_mvCount.pl0] (ps := [spec_mvCount.pl0]) (by kernel_rfl) ⟨⟨fun x => by kernel_rfl, fun k x => by kernel_rfl⟩, trivial⟩ (fun x => by kernel_rfl)

/-! ### spec_EndOfMove: function 6 -/

def spec_EndOfMove.f (k : Nat) (a0_0 : ByteArray) (a0_1 : Int) : Option (Int × Int × Int × Bool) := (spec_mvGood.f k a0_0 a0_1).bind fun t201 => (if t201 = true then ((spec_mvAll.f k a0_0 a0_1).bind fun t202 => ((spec_mvCount.f k t202 114).bind fun t203 => ((spec_mvCount.f k t202 108).bind fun t204 => ((spec_mvCount.f k t202 117).bind fun t205 => ((spec_mvCount.f k t202 100).bind fun t206 => ((spec_mvCount.f k t202 102).bind fun t207 => ((spec_mvCount.f k t202 98).bind fun t208 => (some (wrap64 (t203 - t204), wrap64 (t205 - t206), wrap64 (t207 - t208), true))))))))) else (some (0, 0, 0, false)))

theorem spec_EndOfMove.mono : ∀ a0 a1 k, LeO (spec_EndOfMove.f k a0 a1) (spec_EndOfMove.f (k + 1) a0 a1) := by
  intro a0 a1 k
  unfold spec_EndOfMove.f
  repeat' first
      | (with_reducible exact spec_mvAll.mono _ _ _)
      | (with_reducible exact spec_mvCount.mono _ _ _)
      | (with_reducible exact spec_mvGood.mono _ _ _)
      | (with_reducible exact LeO.refl _)
      | (with_reducible exact LeO.none _)
      | (with_reducible refine LeO.ite ?_ ?_)
      | (with_reducible refine LeO.bind ?_ (fun _ => ?_))
      | exact spec_mvAll.mono _ _ _
      | exact spec_mvCount.mono _ _ _
      | exact spec_mvGood.mono _ _ _
      | exact LeO.none _
      | refine LeO.ite ?_ ?_
      | refine LeO.bind ?_ (fun _ => ?_)

def spec_EndOfMove.e (k : Nat) : Refl.Ent G := ⟨6, [(.agg [.str, li])], .tup [(.c li), (.c li), (.c li), (.c .bool)], fun x => spec_EndOfMove.f k x.1 x.2⟩
theorem spec_EndOfMove.ok (k : Nat) : Refl.EntOK Tryz.prog (spec_EndOfMove.e k) := Refl.ent_ok 1000000 k GC (fun k => [spec_mvGood.e k, spec_mvAll.e k, spec_mvCount.e k]) (fun k => ⟨spec_mvGood.ok k, spec_mvAll.ok k, spec_mvCount.ok k, trivial⟩) Tryz.func6 (by kernel_rfl) [] (ps := []) (by kernel_rfl) trivial (fun x => by kernel_rfl)

/-! ### slices_Reverse_byte_byte: function 27 -/

-- JOINS l0=None | BOXES 
def slices_Reverse_byte_byte.l0 : Nat → List Int → Int → Int → Option (List Int)
  | 0, _, _, _ => none
  | k + 1, x0, x2, x3 => if x2 < x3 then (if 0 ≤ x3 then (if x3 < (x0.length : Int) then (if 0 ≤ x2 then (if x2 < (x0.length : Int) then (if 0 ≤ x2 then (if x2 < (x0.length : Int) then (if 0 ≤ x3 then (if x3 < (x0.length : Int) then (slices_Reverse_byte_byte.l0 k ((x0.set (x2 : Int).toNat (rd x0 x3)).set (x3 : Int).toNat (rd x0 x2)) (wrap64 (x2 + 1)) (wrap64 (x3 - 1))) else (none)) else (none)) else (none)) else (none)) else (none)) else (none)) else (none)) else (none)) else (some x0)
def slices_Reverse_byte_byte.f (k : Nat) (l0 : List Int) : Option (List Int) := slices_Reverse_byte_byte.l0 k l0 0 (wrap64 ((l0.length : Int) - 1))
theorem slices_Reverse_byte_byte.mono_l : ∀ k, (∀ y0 y1 y2, LeO (slices_Reverse_byte_byte.l0 k y0 y1 y2) (slices_Reverse_byte_byte.l0 (k + 1) y0 y1 y2))
  | 0 => fun _ _ _ r h => by simp [slices_Reverse_byte_byte.l0] at h
  | k + 1 => by
    have ih0 := slices_Reverse_byte_byte.mono_l k
    · intro y0 y1 y2
      unfold slices_Reverse_byte_byte.l0
      repeat' first
      | (with_reducible exact ih0 _ _ _)
      | (with_reducible exact LeO.refl _)
      | (with_reducible exact LeO.none _)
      | (with_reducible refine LeO.ite ?_ ?_)
      | (with_reducible refine LeO.bind ?_ (fun _ => ?_))
      | exact ih0 _ _ _
      | exact LeO.none _
      | refine LeO.ite ?_ ?_
      | refine LeO.bind ?_ (fun _ => ?_)
theorem slices_Reverse_byte_byte.mono : ∀ a0 k, LeO (slices_Reverse_byte_byte.f k a0) (slices_Reverse_byte_byte.f (k + 1) a0) := by
  intro a0 k
  have ih0 := slices_Reverse_byte_byte.mono_l k
  unfold slices_Reverse_byte_byte.f
  repeat' first
      | (with_reducible exact ih0 _ _ _)
      | (with_reducible exact LeO.refl _)
      | (with_reducible exact LeO.none _)
      | (with_reducible refine LeO.ite ?_ ?_)
      | (with_reducible refine LeO.bind ?_ (fun _ => ?_))
      | exact ih0 _ _ _
      | exact LeO.none _
      | refine LeO.ite ?_ ?_
      | refine LeO.bind ?_ (fun _ => ?_)
def slices_Reverse_byte_byte.T3 : Bool × List (List Nat × List Nat) := (true, [([], []), ([], []), ([], []), ([], []), ([], []), ([], []), ([4, 5], [4, 5]), ([6], [6]), ([], []), ([], []), ([8, 9], [8, 9]), ([10], [10]), ([0, 1, 0, 1, 4, 5, 6, 7, 11], [0, 1]), ([12, 7, 0, 1, 4, 5, 6, 7, 11], [7, 12]), ([2, 3, 0, 1, 2, 3, 4, 5, 6, 7, 8, 9, 10, 11, 12, 13], [2, 3]), ([14, 11, 13, 0, 1, 2, 3, 4, 5, 6, 7, 8, 9, 10, 11, 12, 13], [11, 14])])
def slices_Reverse_byte_byte.B3 : List Nat := [0, 0, 0, 0, 0, 0, 48, 112, 0, 0, 768, 1792, 4083, 8179, 16383, 32767]
theorem slices_Reverse_byte_byte.tab3 : rtab .any (opsOf Tryz.f27 3) = slices_Reverse_byte_byte.T3 := by kernel_rfl
theorem slices_Reverse_byte_byte.bits3 : waitsOk slices_Reverse_byte_byte.T3.2 slices_Reverse_byte_byte.B3 = true := by kernel_rfl
set_option maxHeartbeats 8000000 in
set_option maxRecDepth 100000 in
theorem slices_Reverse_byte_byte.calls (k : Nat) (P0_ : Nat → Prop) (u9000_ : Value) (l0 : List Int) (r : List Int) (w0 w : World) (hB : Below w0.heap.size w0 w) (ho0 : Kd.R (Kd.int .u8) 5 w w0.heap.size P0_ u9000_ l0) (h : slices_Reverse_byte_byte.f k l0 = some r) :
    Calls Tryz.prog 27 #[u9000_] w fun e w' => e = .returned (.tuple #[]) ∧ Kd.R (Kd.int .u8) 5 w' w0.heap.size (fun k_ => (P0_ k_ ∨ w.heap.size ≤ k_)) u9000_ r ∧ Below w0.heap.size w0 w' ∧ Kept w w' (fun k_ => P0_ k_) := by
  have HO0 := Aside0.mk (show Kd.R (Kd.int .u8) 5 w w0.heap.size (fun k_ => (P0_ k_ ∨ w.heap.size ≤ k_)) u9000_ l0 from Kd.R_mono ho0 (fun k_ hk => (.inl hk)))
  have HK := Aside0.mk (Kept.refl w (fun k_ => P0_ k_))
  have HW0 := Aside0.mk hB.size
  have HB := Aside0.mk hB
  clear hB
  have H : (slices_Reverse_byte_byte.l0 k l0 0 (wrap64 ((l0.length : Int) - 1))) = some r := h
  clear h
  have H' := Aside0.mk H
  clear H
  obtain ⟨Ao2, co2, eo2⟩ := Kd.R_slice HO0.out
  subst eo2
  go_enter Tryz.func27, Tryz.ntmps27
  go_wp2
  go_loopg [2, 3] k (fun kq v2 v3 w' => ∃ (x0_1 : List Int) (x2_1 : Int) (x3_1 : Int), v2 = .int .i64 x2_1 ∧ v3 = .int .i64 x3_1 ∧ Aside0 (slices_Reverse_byte_byte.l0 kq x0_1 x2_1 x3_1 = some r) ∧ Aside0 (kq ≤ k) ∧ Aside0 (Kd.R (Kd.int .u8) 5 w' w0.heap.size (fun k_ => (P0_ k_ ∨ w.heap.size ≤ k_)) (.slice Ao2 l0.length co2) x0_1) ∧ Aside0 (Kept w w' (fun k_ => P0_ k_)) ∧ Aside0 (Below w0.heap.size w0 w'))
  case atStart => exact ⟨(l0), (0), (wrap64 ((l0.length : Int) - 1)), (by first | rfl | (simp; done) | (simp [*]; done)), (by first | rfl | (simp; done) | (simp [*]; done)), H', ⟨Nat.le_refl _⟩, ⟨by (with_reducible repeat (first | apply Kd.R_alloc | apply Kd.R_drewN | apply Kd.R_drew)); exact HO0.out⟩, ⟨by repeat (first | (with_reducible first | exact HK.out | apply Kept.alloc | apply Kept.drewN | apply Kept.drew) | exact HK.out)⟩, ⟨by repeat (first | (with_reducible first | exact HB.out | apply below_alloc | apply pw_below_drewN | apply below_drew1) | exact HB.out)⟩⟩
  case round =>
    clear H'
    try clear c2
    try clear p2
    obtain ⟨x0_1, x2_1, x3_1, rfl, rfl, HA, HK1, HO_0, HK, HB⟩ := hrel
    have hl0_1 := (Kd.R_reads' HO_0.out).1
    rw [hl0_1] at HO_0
    (try simp only [hl0_1])
    cases gk with
    | zero => exact absurd HA.out (by simp [slices_Reverse_byte_byte.l0])
    | succ k1 =>
      have H := HA.out
      clear HA
      simp only [slices_Reverse_byte_byte.l0] at H
      by_cases c3 : x2_1 < x3_1
      · rw [if_pos c3] at H
        have c3b0 : decide (x2_1 < x3_1) = true := decide_eq_true c3
        clear c3
        by_cases c4 : 0 ≤ x3_1
        · rw [if_pos c4] at H
          have c4b0 : decide (0 ≤ x3_1) = true := decide_eq_true c4
          clear c4
          by_cases c5 : x3_1 < (x0_1.length : Int)
          · rw [if_pos c5] at H
            have c5b0 : decide (x3_1 < (x0_1.length : Int)) = true := decide_eq_true c5
            clear c5
            by_cases c6 : 0 ≤ x2_1
            · rw [if_pos c6] at H
              have c6b0 : decide (0 ≤ x2_1) = true := decide_eq_true c6
              clear c6
              by_cases c7 : x2_1 < (x0_1.length : Int)
              · rw [if_pos c7] at H
                have c7b0 : decide (x2_1 < (x0_1.length : Int)) = true := decide_eq_true c7
                clear c7
                by_cases c8 : 0 ≤ x2_1
                · rw [if_pos c8] at H
                  have c8b0 : decide (0 ≤ x2_1) = true := decide_eq_true c8
                  clear c8
                  by_cases c9 : x2_1 < (x0_1.length : Int)
                  · rw [if_pos c9] at H
                    have c9b0 : decide (x2_1 < (x0_1.length : Int)) = true := decide_eq_true c9
                    clear c9
                    obtain ⟨y211, hy211⟩ : ∃ y_ : List Int, y_ = (x0_1.set (x2_1 : Int).toNat (rd x0_1 x3_1)) := ⟨_, rfl⟩
                    replace H : (if 0 ≤ x3_1 then (if x3_1 < (x0_1.length : Int) then (slices_Reverse_byte_byte.l0 k1 (y211.set (x3_1 : Int).toNat (rd x0_1 x2_1)) (wrap64 (x2_1 + 1)) (wrap64 (x3_1 - 1))) else (none)) else (none)) = some r := by first | (rw [hy211]; with_reducible exact H) | (have H2_ := (Option.bind_some _ _).symm.trans H; rw [hy211]; with_reducible exact H2_) | (have H2_ := (Option.bind_some _ _).symm.trans H; with_reducible exact H2_) | with_reducible exact H | (rw [hy211]; exact H) | exact H
                    have Ny211 := Aside0.mk hy211
                    clear hy211
                    by_cases c11 : 0 ≤ x3_1
                    · rw [if_pos c11] at H
                      have c11b0 : decide (0 ≤ x3_1) = true := decide_eq_true c11
                      clear c11
                      by_cases c12 : x3_1 < (x0_1.length : Int)
                      · rw [if_pos c12] at H
                        have c12b0 : decide (x3_1 < (x0_1.length : Int)) = true := decide_eq_true c12
                        clear c12
                        obtain ⟨y212, hy212⟩ : ∃ y_ : List Int, y_ = (y211.set (x3_1 : Int).toNat (rd x0_1 x2_1)) := ⟨_, rfl⟩
                        replace H : (slices_Reverse_byte_byte.l0 k1 y212 (wrap64 (x2_1 + 1)) (wrap64 (x3_1 - 1))) = some r := by first | (rw [hy212]; with_reducible exact H) | (have H2_ := (Option.bind_some _ _).symm.trans H; rw [hy212]; with_reducible exact H2_) | (have H2_ := (Option.bind_some _ _).symm.trans H; with_reducible exact H2_) | with_reducible exact H | (rw [hy212]; exact H) | exact H
                        have Ny212 := Aside0.mk hy212
                        clear hy212
                        have H' := Aside0.mk H
                        clear H
                        try go_wp2
                        have n0_ := Aside0.mk (Kd.R_drew HO_0.out)
                        have n1_ := Aside0.mk (Kept.drew HK.out)
                        have n2_ := Aside0.mk (below_drew1 HB.out)
                        clear HO_0
                        clear HK
                        clear HB
                        have HO_0 := n0_
                        have HK := n1_
                        have HB := n2_
                        clear n0_ n1_ n2_
                        have p209 : 0 ≤ (x3_1 : Int) := of_decide_eq_true (by first | (with_reducible assumption) | assumption)
                        have q209 : x3_1 < (x0_1.length : Int) := of_decide_eq_true (by first | (with_reducible assumption) | assumption)
                        obtain ⟨ad209, e209, hx209_0⟩ := Kd.at_int (Kd.R_reads' HO_0.out).2.2 x3_1 p209 q209
                        cases e209
                        replace p209 := eq_true p209
                        replace q209 := eq_true q209
                        have p210 : 0 ≤ (x2_1 : Int) := of_decide_eq_true (by first | (with_reducible assumption) | assumption)
                        have q210 : x2_1 < (x0_1.length : Int) := of_decide_eq_true (by first | (with_reducible assumption) | assumption)
                        obtain ⟨ad210, e210, hx210_0⟩ := Kd.at_int (Kd.R_reads' HO_0.out).2.2 x2_1 p210 q210
                        obtain rfl : ad209 = ad210 := (by injection e210)
                        replace p210 := eq_true p210
                        replace q210 := eq_true q210
                        have p10 : 0 ≤ (x2_1 : Int) := of_decide_eq_true (by first | (with_reducible assumption) | assumption)
                        have q10 : (x2_1 : Int) < ((x0_1.length : Int) : Int) := of_decide_eq_true (by first | (with_reducible assumption) | assumption)
                        obtain ⟨go10, co10, eo10, gb10, gl10, cl10, HG10⟩ := Kd.R_form HO_0.out (by omega)
                        (first | cases eo10 | (injection eo10 with ea_ en_ ec_; (first | subst ea_ | (injection ea_ with ea_; subst ea_)); subst ec_; clear en_))
                        have GB10 := Aside0.mk gb10
                        have GG10 := Aside0.mk HG10
                        clear gb10 gl10 HG10
                        have HMgo10 := Aside0.mk (show (P0_ go10 ∨ w.heap.size ≤ go10) from (HO_0.out.1 _ rfl))
                        (first | simp only [add_plain] at hx209_0 | skip)
                        (first | simp only [add_plain] at hx210_0 | skip)
                        obtain ⟨hx10_0, hf10_0⟩ := Kd.R_celln 0 HO_0.out (x2_1 : Int) p10 q10
                        replace p10 := eq_true p10
                        replace q10 := eq_true q10
                        have HP15 := Kd.R_putn HO_0.out (x2_1 : Int) (rd x0_1 x3_1)
                        rw [← Ny211.out] at HP15
                        have HQ15 := Aside0.mk HP15
                        clear HP15
                        have p13 : 0 ≤ (x3_1 : Int) := of_decide_eq_true (by first | (with_reducible assumption) | assumption)
                        have q13 : (x3_1 : Int) < ((x0_1.length : Int) : Int) := of_decide_eq_true (by first | (with_reducible assumption) | assumption)
                        obtain ⟨hx13_0, hf13_0⟩ := Kd.R_celln 0 HQ15.out (x3_1 : Int) p13 q13
                        replace p13 := eq_true p13
                        replace q13 := eq_true q13
                        have HP16 := Kd.R_putn HQ15.out (x3_1 : Int) (rd x0_1 x2_1)
                        rw [← Ny212.out] at HP16
                        have HQ16 := Aside0.mk HP16
                        clear HP16
                        refine start_ (n := 16) (S := fun w' => w'.cell? ⟨go10, (x3_1).toNat, none⟩ = some (.int .u8 (rd x0_1 x3_1)) ∧ w'.cell? ⟨go10, (x2_1).toNat, none⟩ = some (.int .u8 (rd x0_1 x2_1))) (ds := [13, 15]) #[false, false, false, false, false, false, false, false, false, false, false, false, false, false, false, false] (by kernel_rfl) rfl rfl ⟨hx209_0, hx210_0⟩ (fun hHeld => ?_); refine with_tabW slices_Reverse_byte_byte.tab3 slices_Reverse_byte_byte.bits3 (fun HT_ HW_ => ?_)
                        generalize wr.drew = w14 at HO_0 HK HB GG10 HQ15 HQ16 hf10_0 hf13_0 hx10_0 hx13_0 hx209_0 hx210_0 hHeld ⊢
                        refine pure_ (i := 0) (N := some 14) (v := ?_) (a' := ?_) #[true, false, false, false, false, false, false, false, false, false, false, false, false, false, false, false] rfl rfl (any_of HT_.out (by kernel_rfl)) (fun _ _ _ h => h) (Or.inl ⟨by rfl, ?_⟩) ?_ ?_
                        rotate_left
                        · intro w'
                          go_simp
                          with_reducible rfl
                        rotate_left
                        · simp only [Act.put, List.setIfInBounds_toArray, List.set_cons_zero, List.set_cons_succ, i64_w, i32_w]
                          rfl
                        refine pure_ (i := 1) (N := some 15) (v := ?_) (a' := ?_) #[true, true, false, false, false, false, false, false, false, false, false, false, false, false, false, false] rfl rfl (any_of HT_.out (by kernel_rfl)) (fun _ _ _ h => h) (Or.inl ⟨by rfl, ?_⟩) ?_ ?_
                        rotate_left
                        · intro w'
                          go_simp
                          with_reducible rfl
                        rotate_left
                        · simp only [Act.put, List.setIfInBounds_toArray, List.set_cons_zero, List.set_cons_succ, i64_w, i32_w]
                          rfl
                        refine pure_ (i := 2) (N := some 16) (v := ?_) (a' := ?_) #[true, true, true, false, false, false, false, false, false, false, false, false, false, false, false, false] rfl rfl (any_of HT_.out (by kernel_rfl)) (fun _ _ _ h => h) (Or.inl ⟨by rfl, ?_⟩) ?_ ?_
                        rotate_left
                        · intro w'
                          go_simp
                          with_reducible rfl
                        rotate_left
                        · simp only [Act.put, List.setIfInBounds_toArray, List.set_cons_zero, List.set_cons_succ, i64_w, i32_w]
                          rfl
                        refine pure_ (i := 3) (N := some 17) (v := ?_) (a' := ?_) #[true, true, true, true, false, false, false, false, false, false, false, false, false, false, false, false] rfl rfl (any_of HT_.out (by kernel_rfl)) (fun _ _ _ h => h) (Or.inl ⟨by rfl, ?_⟩) ?_ ?_
                        rotate_left
                        · intro w'
                          go_simp
                          with_reducible rfl
                        rotate_left
                        · simp only [Act.put, List.setIfInBounds_toArray, List.set_cons_zero, List.set_cons_succ, i64_w, i32_w]
                          rfl
                        refine pure_ (i := 4) (N := some 18) (v := ?_) (a' := ?_) #[true, true, true, true, true, false, false, false, false, false, false, false, false, false, false, false] rfl rfl (any_of HT_.out (by kernel_rfl)) (fun _ _ _ h => h) (Or.inl ⟨by rfl, ?_⟩) ?_ ?_
                        rotate_left
                        · intro w'
                          go_simp
                          with_reducible rfl
                        rotate_left
                        · simp only [Act.put, List.setIfInBounds_toArray, List.set_cons_zero, List.set_cons_succ, i64_w, i32_w]
                          rfl
                        refine pure_ (i := 5) (N := some 19) (v := ?_) (a' := ?_) #[true, true, true, true, true, true, false, false, false, false, false, false, false, false, false, false] rfl rfl (any_of HT_.out (by kernel_rfl)) (fun _ _ _ h => h) (Or.inl ⟨by rfl, ?_⟩) ?_ ?_
                        rotate_left
                        · intro w'
                          go_simp
                          with_reducible rfl
                        rotate_left
                        · simp only [Act.put, List.setIfInBounds_toArray, List.set_cons_zero, List.set_cons_succ, i64_w, i32_w]
                          rfl
                        refine pure_ (i := 6) (N := some 20) (v := ?_) (a' := ?_) #[true, true, true, true, true, true, true, false, false, false, false, false, false, false, false, false] rfl rfl (any_of HT_.out (by kernel_rfl)) (fun _ _ _ h => h) (Or.inl ⟨by rfl, ?_⟩) ?_ ?_
                        rotate_left
                        · intro w'
                          go_simp
                          with_reducible rfl
                        rotate_left
                        · simp only [Act.put, List.setIfInBounds_toArray, List.set_cons_zero, List.set_cons_succ, i64_w, i32_w]
                          rfl
                        refine pure_ (i := 8) (N := some 22) (v := ?_) (a' := ?_) #[true, true, true, true, true, true, true, false, true, false, false, false, false, false, false, false] rfl rfl (any_of HT_.out (by kernel_rfl)) (fun _ _ _ h => h) (Or.inl ⟨by rfl, ?_⟩) ?_ ?_
                        rotate_left
                        · intro w'
                          go_simp
                          with_reducible rfl
                        rotate_left
                        · simp only [Act.put, List.setIfInBounds_toArray, List.set_cons_zero, List.set_cons_succ, i64_w, i32_w]
                          rfl
                        refine pure_ (i := 9) (N := some 23) (v := ?_) (a' := ?_) #[true, true, true, true, true, true, true, false, true, true, false, false, false, false, false, false] rfl rfl (any_of HT_.out (by kernel_rfl)) (fun _ _ _ h => h) (Or.inl ⟨by rfl, ?_⟩) ?_ ?_
                        rotate_left
                        · intro w'
                          go_simp
                          with_reducible rfl
                        rotate_left
                        · simp only [Act.put, List.setIfInBounds_toArray, List.set_cons_zero, List.set_cons_succ, i64_w, i32_w]
                          rfl
                        refine pure_ (i := 10) (N := some 24) (v := ?_) (a' := ?_) #[true, true, true, true, true, true, true, false, true, true, true, false, false, false, false, false] rfl rfl (any_of HT_.out (by kernel_rfl)) (fun _ _ _ h => h) (Or.inl ⟨by rfl, ?_⟩) ?_ ?_
                        rotate_left
                        · intro w'
                          go_simp
                          with_reducible rfl
                        rotate_left
                        · simp only [Act.put, List.setIfInBounds_toArray, List.set_cons_zero, List.set_cons_succ, i64_w, i32_w]
                          rfl
                        refine take_ (i := 7) (N := some 21) (v := ?_) (a' := ?_) #[true, true, true, true, true, true, true, true, true, true, true, false, false, false, false, false] rfl rfl (take_ofW HT_.out HW_.out (by kernel_rfl)) (fun _ _ _ h => h) (Or.inl ⟨by rfl, ?_⟩) hHeld ?_ ?_
                        rotate_left
                        · rintro w' ⟨s0, s1⟩
                          go_simp
                          with_reducible rfl
                        rotate_left
                        · simp only [Act.put, List.setIfInBounds_toArray, List.set_cons_zero, List.set_cons_succ, i64_w, i32_w]
                          rfl
                        refine take_ (i := 11) (N := some 25) (v := ?_) (a' := ?_) #[true, true, true, true, true, true, true, true, true, true, true, true, false, false, false, false] rfl rfl (take_ofW HT_.out HW_.out (by kernel_rfl)) (fun _ _ _ h => h) (Or.inl ⟨by rfl, ?_⟩) hHeld ?_ ?_
                        rotate_left
                        · rintro w' ⟨s0, s1⟩
                          go_simp
                          with_reducible rfl
                        rotate_left
                        · simp only [Act.put, List.setIfInBounds_toArray, List.set_cons_zero, List.set_cons_succ, i64_w, i32_w]
                          rfl
                        refine pure_ (i := 12) (N := some 26) (v := ?_) (a' := ?_) #[true, true, true, true, true, true, true, true, true, true, true, true, true, false, false, false] rfl rfl (any_of HT_.out (by kernel_rfl)) (fun _ _ _ h => h) (Or.inl ⟨by rfl, ?_⟩) ?_ ?_
                        rotate_left
                        · intro w'
                          go_simp
                          with_reducible rfl
                        rotate_left
                        · simp only [Act.put, List.setIfInBounds_toArray, List.set_cons_zero, List.set_cons_succ, i64_w, i32_w]
                          rfl
                        refine last_ (i := 13) (N := none) #[true, true, true, true, true, true, true, true, true, true, true, true, true, true, false, false] rfl rfl (one_of HT_.out (by kernel_rfl)) (by decide) (fun K hK => ?_)
                        refine skip_ (w1 := ?_) (by rfl) rfl ?_ ?_
                        rotate_left
                        · go_simp
                          rfl
                        refine hK.out _ _ ?_
                        clear hK K
                        refine pure_ (i := 14) (N := some 27) (v := ?_) (a' := ?_) #[true, true, true, true, true, true, true, true, true, true, true, true, true, true, true, false] rfl rfl (any_of HT_.out (by kernel_rfl)) (fun _ _ _ h => h) (Or.inl ⟨by rfl, ?_⟩) ?_ ?_
                        rotate_left
                        · intro w'
                          go_simp
                          with_reducible rfl
                        rotate_left
                        · simp only [Act.put, List.setIfInBounds_toArray, List.set_cons_zero, List.set_cons_succ, i64_w, i32_w]
                          rfl
                        refine last_ (i := 15) (N := none) #[true, true, true, true, true, true, true, true, true, true, true, true, true, true, true, true] rfl rfl (one_of HT_.out (by kernel_rfl)) (by decide) (fun K hK => ?_)
                        refine skip_ (w1 := ?_) (by rfl) rfl ?_ ?_
                        rotate_left
                        · go_simp
                          rfl
                        refine hK.out _ _ ?_
                        clear hK K
                        refine done_ (done_of HT_.out (by kernel_rfl)) ?_
                        try go_wp2
                        (try simp only [← hl0_1])
                        go_roundg k1
                        case measure => have := HK1.out; omega
                        case rel => exact ⟨(y212), (wrap64 (x2_1 + 1)), (wrap64 (x3_1 - 1)), (by first | rfl | (simp; done) | (simp [*]; done)), (by first | rfl | (simp; done) | (simp [*]; done)), H', ⟨by have := HK1.out; omega⟩, ⟨by (try simp only [hl0_1]); (with_reducible repeat (first | apply Kd.R_alloc | apply Kd.R_drewN | apply Kd.R_drew)); exact HQ16.out⟩, ⟨by repeat (first | (with_reducible first | exact HK.out | apply Kept.alloc | apply Kept.drewN | apply Kept.drew | refine Kept.setCell ?_ HMgo10.out _ | refine Kept.setCell ?_ HMgo10.out _) | exact HK.out)⟩, ⟨by repeat (first | (with_reducible first | exact HB.out | apply below_alloc | apply pw_below_drewN | apply below_drew1 | refine below_set ?_ GB10.out | refine below_set ?_ GB10.out) | exact HB.out)⟩⟩
                      · rw [if_neg c12] at H
                        exact absurd H (by simp)
                    · rw [if_neg c11] at H
                      exact absurd H (by simp)
                  · rw [if_neg c9] at H
                    exact absurd H (by simp)
                · rw [if_neg c8] at H
                  exact absurd H (by simp)
              · rw [if_neg c7] at H
                exact absurd H (by simp)
            · rw [if_neg c6] at H
              exact absurd H (by simp)
          · rw [if_neg c5] at H
            exact absurd H (by simp)
        · rw [if_neg c4] at H
          exact absurd H (by simp)
      · rw [if_neg c3] at H
        have c3b0 : decide (x2_1 < x3_1) = false := decide_eq_false c3
        clear c3
        obtain rfl := Option.some.inj H
        go_wp2
        first | go_end0 | ((try simp only [Exit.inBlock, Exit.then]); refine bodyPost_ret (results_none rfl _ _ _) rfl ?_)
        exact ⟨by first | rfl | (simp [errW_none, errW_some] <;> rfl) | (simp [*, errW_none, errW_some] <;> rfl), (by first | exact (by (with_reducible repeat (first | apply Kd.R_alloc | apply Kd.R_drewN | apply Kd.R_drew)); exact HO_0.out) | (simp only [hl0_1]; exact (by (with_reducible repeat (first | apply Kd.R_alloc | apply Kd.R_drewN | apply Kd.R_drew)); exact HO_0.out))), by repeat (first | (with_reducible first | exact HB.out | apply below_alloc | apply pw_below_drewN | apply below_drew1) | exact HB.out), by repeat (first | (with_reducible first | exact HK.out | apply Kept.alloc | apply Kept.drewN | apply Kept.drew) | exact HK.out)⟩

/-! ### impl_ReverseMove: function 7 -/

def bytesOf (s : ByteArray) : List Int := s.data.toList.map fun b => (b.toNat : Int)
def dirsB : ByteArray := ⟨#[117, 100, 108, 114, 102, 98]⟩
def impl_ReverseMove.l0 : Nat → List Int → Int → Option (List Int)
  | 0, _, _ => none
  | k + 1, l, i => if i < (l.length : Int) then (if 0 ≤ i then (if 0 ≤ Go.bits .xor .i64 (Lib.indexByte dirsB.data.toList (rd l i).toNat.toUInt8) 1 then (if Go.bits .xor .i64 (Lib.indexByte dirsB.data.toList (rd l i).toNat.toUInt8) 1 < 6 then impl_ReverseMove.l0 k (l.set i.toNat (bt dirsB (Go.bits .xor .i64 (Lib.indexByte dirsB.data.toList (rd l i).toNat.toUInt8) 1))) (wrap64 (i + 1)) else none) else none) else none) else some l
def impl_ReverseMove.f (k : Nat) (s : ByteArray) (n : Int) : Option (ByteArray × Int × Bool) := (impl_IsMove.f k s n).bind fun t => if t = true then ((slices_Reverse_byte_byte.f k (bytesOf s)).bind fun l => (impl_ReverseMove.l0 k l 0).bind fun m => some (strOfNums m, n, true)) else some (⟨#[]⟩, 0, false)
theorem impl_ReverseMove.mono_l : ∀ k, (∀ y0 y1, LeO (impl_ReverseMove.l0 k y0 y1) (impl_ReverseMove.l0 (k + 1) y0 y1))
  | 0 => fun _ _ r h => by simp [impl_ReverseMove.l0] at h
  | k + 1 => by
    have ih0 := impl_ReverseMove.mono_l k
    intro l i
    unfold impl_ReverseMove.l0
    repeat (first | exact LeO.refl _ | exact ih0 _ _ | (split; rotate_left; rotate_left) | split)
theorem impl_ReverseMove.mono : ∀ a0 a1 k, LeO (impl_ReverseMove.f k a0 a1) (impl_ReverseMove.f (k + 1) a0 a1) := by
  intro a0 a1 k
  unfold impl_ReverseMove.f
  refine LeO.bind (impl_IsMove.mono _ _ _) (fun t => ?_)
  split
  · exact LeO.bind (slices_Reverse_byte_byte.mono _ _) (fun l => LeO.bind (impl_ReverseMove.mono_l k _ _) (fun _ => LeO.refl _))
  · exact LeO.refl _
namespace Bf
/-- A row of bytes of the call's own, in a block of base or later; one place behind the last cell is marked. -/
def R (e : Nat) (w : World) (base : Nat) (ok : Nat → Prop) (v : Value) (xs : List Int) : Prop :=
  ∃ (g cap : Nat) (cur : Array Value), v = .slice (some ⟨g, 0, none⟩) xs.length cap ∧ ok g ∧ base ≤ g ∧ w.heap[g]? = some (.cells cur e (cur.size, cur.size + 1)) ∧ xs.length ≤ cap ∧ xs.length ≤ cur.size ∧ ∀ (j : Nat) (h : j < xs.length), cur[j]? = some (.int .u8 xs[j])
/-- What is read of it. -/
def C (w : World) (A : Option Addr) (n : Nat) (xs : List Int) : Prop := ∃ g, A = some ⟨g, 0, none⟩ ∧ ∀ (i : Int), 0 ≤ i → i < n → w.cell? ⟨g, i.toNat, none⟩ = some (.int .u8 (rd xs i))
variable {e base : Nat} {w w' : World} {ok ok' : Nat → Prop} {v : Value} {xs : List Int}
theorem R_mono (h : R e w base ok v xs) (hok : ∀ k, ok k → ok' k) : R e w base ok' v xs := by
  obtain ⟨g, cap, cur, h1, h2, h3⟩ := h
  exact ⟨g, cap, cur, h1, hok _ h2, h3⟩
theorem R_slice (h : R e w base ok v xs) : ∃ A c, v = .slice A xs.length c := by
  obtain ⟨g, cap, cur, h1, _⟩ := h
  exact ⟨_, cap, h1⟩
theorem R_below (h : R e w base ok v xs) (hb : Below w.heap.size w w') : R e w' base ok v xs := by
  obtain ⟨g, cap, cur, h1, h2, h3, h4, h5⟩ := h
  exact ⟨g, cap, cur, h1, h2, h3, blk_below h4 hb, h5⟩
theorem R_alloc (h : R e w base ok v xs) (o : Obj) : R e (w.alloc o) base ok v xs := R_below h (below_alloc (Below.refl _ _) o)
theorem R_drew (h : R e w base ok v xs) : R e w.drew base ok v xs := R_below h (below_drew (Below.refl _ _))
theorem R_drewN (h : R e w base ok v xs) (m : Nat) : R e (w.drewN m) base ok v xs := R_below h (pw_below_drewN (Below.refl _ _) m)
theorem rd_at {xs : List Int} {i : Int} (h0 : 0 ≤ i) (hi : i < (xs.length : Int)) : rd xs i = xs[i.toNat]'(by omega) := by
  unfold rd
  rw [List.getD_eq_getElem?_getD, List.getElem?_eq_getElem (by omega)]
  rfl
theorem cell_of {g : Nat} {cur : Array Value} {fz : Nat × Nat} (h : w.heap[g]? = some (.cells cur e fz)) (j : Nat) : w.cell? ⟨g, j, none⟩ = cur[j]? := by
  unfold World.cell?
  simp only [h]
  rfl
theorem R_reads' {A : Option Addr} {n c : Nat} (h : R e w base ok (.slice A n c) xs) : n = xs.length ∧ n ≤ c ∧ C w A xs.length xs := by
  obtain ⟨g, cap, cur, h1, h2, h3, h4, h5, h6, h7⟩ := h
  injection h1 with e1 e2 e3
  subst e1 e2 e3
  refine ⟨rfl, h5, g, rfl, fun i h0 hi => ?_⟩
  rw [cell_of h4, h7 i.toNat (by omega), rd_at h0 hi]
theorem at_int {A : Option Addr} {n : Nat} (h : C w A n xs) (i : Int) (h0 : 0 ≤ i) (h1 : i < n) : ∃ ad : Addr, A = some ad ∧ w.cell? (ad.add i.toNat) = some (.int .u8 (rd xs i)) := by
  obtain ⟨g, rfl, hg⟩ := h
  refine ⟨_, rfl, ?_⟩
  rw [add_plain]
  exact hg i h0 h1
theorem R_form (h : R e w base ok v xs) (hp : 0 < xs.length) : ∃ g cap, v = .slice (some ⟨g, 0, none⟩) xs.length cap ∧ base ≤ g ∧ g < w.heap.size ∧ ∃ _c : Array Value, ok g := by
  obtain ⟨g, cap, cur, h1, h2, h3, h4, h5⟩ := h
  exact ⟨g, cap, h1, h3, (Array.getElem?_eq_some_iff.1 h4).1, cur, h2⟩
theorem R_celln {g n cap : Nat} (d : Int) (h : R e w base ok (.slice (some ⟨g, 0, none⟩) n cap) xs) (i : Int) (h0 : 0 ≤ i) (hi : i < n) : w.cell? ⟨g, i.toNat, none⟩ = some (.int .u8 (rdOf d xs i)) ∧ w.frozen? ⟨g, i.toNat, none⟩ = false := by
  obtain ⟨g', cap', cur, h1, h2, h3, h4, h5, h6, h7⟩ := h
  injection h1 with e1 e2 e3
  injection e1 with e1
  injection e1 with e1
  subst e1 e2 e3
  refine ⟨?_, ?_⟩
  · rw [cell_of h4, h7 i.toNat (by omega)]
    unfold rdOf
    rw [List.getD_eq_getElem?_getD, List.getElem?_eq_getElem (by omega)]
    rfl
  · unfold World.frozen?
    simp only [h4]
    simp only [Bool.and_eq_false_iff, decide_eq_false_iff_not]
    left
    omega
theorem R_putn {g n cap : Nat} (h : R e w base ok (.slice (some ⟨g, 0, none⟩) n cap) xs) (i : Int) (x : Int) : R e (w.setCell ⟨g, i.toNat, none⟩ (.int .u8 x)) base ok (.slice (some ⟨g, 0, none⟩) n cap) (xs.set i.toNat x) := by
  obtain ⟨g', cap', cur, h1, h2, h3, h4, h5, h6, h7⟩ := h
  injection h1 with e1 e2 e3
  injection e1 with e1
  injection e1 with e1
  subst e1 e2 e3
  refine ⟨g, cap, cur.setIfInBounds i.toNat (.int .u8 x), by rw [List.length_set], h2, h3, ?_, by rw [List.length_set]; exact h5, by rw [List.length_set, Array.size_setIfInBounds]; exact h6, fun j hj => ?_⟩
  · unfold World.setCell
    simp only [Array.getElem?_modify, if_pos rfl, h4, Option.map_some, Option.isSome_none, Bool.false_eq_true, if_false, if_true, Array.size_setIfInBounds]
  · rw [List.length_set] at hj
    rw [Array.getElem?_setIfInBounds, List.getElem_set]
    by_cases e : i.toNat = j
    · rw [if_pos e, if_pos e, if_pos (by omega)]
    · rw [if_neg e, if_neg e]; exact h7 j hj
end Bf
set_option maxHeartbeats 8000000 in
set_option maxRecDepth 100000 in
theorem revCallsB (k : Nat) (P0_ : Nat → Prop) (u9000_ : Value) (l0 : List Int) (r : List Int) (w0 w : World) (hB : Below w0.heap.size w0 w) (ho0 : Bf.R 5 w w0.heap.size P0_ u9000_ l0) (h : slices_Reverse_byte_byte.f k l0 = some r) :
    Calls Tryz.prog 27 #[u9000_] w fun e w' => e = .returned (.tuple #[]) ∧ Bf.R 5 w' w0.heap.size (fun k_ => (P0_ k_ ∨ w.heap.size ≤ k_)) u9000_ r ∧ Below w0.heap.size w0 w' ∧ Kept w w' (fun k_ => P0_ k_) := by
  have HO0 := Aside0.mk (show Bf.R 5 w w0.heap.size (fun k_ => (P0_ k_ ∨ w.heap.size ≤ k_)) u9000_ l0 from Bf.R_mono ho0 (fun k_ hk => (.inl hk)))
  have HK := Aside0.mk (Kept.refl w (fun k_ => P0_ k_))
  have HW0 := Aside0.mk hB.size
  have HB := Aside0.mk hB
  clear hB
  have H : (slices_Reverse_byte_byte.l0 k l0 0 (wrap64 ((l0.length : Int) - 1))) = some r := h
  clear h
  have H' := Aside0.mk H
  clear H
  obtain ⟨Ao2, co2, eo2⟩ := Bf.R_slice HO0.out
  subst eo2
  go_enter Tryz.func27, Tryz.ntmps27
  go_wp2
  go_loopg [2, 3] k (fun kq v2 v3 w' => ∃ (x0_1 : List Int) (x2_1 : Int) (x3_1 : Int), v2 = .int .i64 x2_1 ∧ v3 = .int .i64 x3_1 ∧ Aside0 (slices_Reverse_byte_byte.l0 kq x0_1 x2_1 x3_1 = some r) ∧ Aside0 (kq ≤ k) ∧ Aside0 (Bf.R 5 w' w0.heap.size (fun k_ => (P0_ k_ ∨ w.heap.size ≤ k_)) (.slice Ao2 l0.length co2) x0_1) ∧ Aside0 (Kept w w' (fun k_ => P0_ k_)) ∧ Aside0 (Below w0.heap.size w0 w'))
  case atStart => exact ⟨(l0), (0), (wrap64 ((l0.length : Int) - 1)), (by first | rfl | (simp; done) | (simp [*]; done)), (by first | rfl | (simp; done) | (simp [*]; done)), H', ⟨Nat.le_refl _⟩, ⟨by (with_reducible repeat (first | apply Bf.R_alloc | apply Bf.R_drewN | apply Bf.R_drew)); exact HO0.out⟩, ⟨by repeat (first | (with_reducible first | exact HK.out | apply Kept.alloc | apply Kept.drewN | apply Kept.drew) | exact HK.out)⟩, ⟨by repeat (first | (with_reducible first | exact HB.out | apply below_alloc | apply pw_below_drewN | apply below_drew1) | exact HB.out)⟩⟩
  case round =>
    clear H'
    try clear c2
    try clear p2
    obtain ⟨x0_1, x2_1, x3_1, rfl, rfl, HA, HK1, HO_0, HK, HB⟩ := hrel
    have hl0_1 := (Bf.R_reads' HO_0.out).1
    rw [hl0_1] at HO_0
    (try simp only [hl0_1])
    cases gk with
    | zero => exact absurd HA.out (by simp [slices_Reverse_byte_byte.l0])
    | succ k1 =>
      have H := HA.out
      clear HA
      simp only [slices_Reverse_byte_byte.l0] at H
      by_cases c3 : x2_1 < x3_1
      · rw [if_pos c3] at H
        have c3b0 : decide (x2_1 < x3_1) = true := decide_eq_true c3
        clear c3
        by_cases c4 : 0 ≤ x3_1
        · rw [if_pos c4] at H
          have c4b0 : decide (0 ≤ x3_1) = true := decide_eq_true c4
          clear c4
          by_cases c5 : x3_1 < (x0_1.length : Int)
          · rw [if_pos c5] at H
            have c5b0 : decide (x3_1 < (x0_1.length : Int)) = true := decide_eq_true c5
            clear c5
            by_cases c6 : 0 ≤ x2_1
            · rw [if_pos c6] at H
              have c6b0 : decide (0 ≤ x2_1) = true := decide_eq_true c6
              clear c6
              by_cases c7 : x2_1 < (x0_1.length : Int)
              · rw [if_pos c7] at H
                have c7b0 : decide (x2_1 < (x0_1.length : Int)) = true := decide_eq_true c7
                clear c7
                by_cases c8 : 0 ≤ x2_1
                · rw [if_pos c8] at H
                  have c8b0 : decide (0 ≤ x2_1) = true := decide_eq_true c8
                  clear c8
                  by_cases c9 : x2_1 < (x0_1.length : Int)
                  · rw [if_pos c9] at H
                    have c9b0 : decide (x2_1 < (x0_1.length : Int)) = true := decide_eq_true c9
                    clear c9
                    obtain ⟨y211, hy211⟩ : ∃ y_ : List Int, y_ = (x0_1.set (x2_1 : Int).toNat (rd x0_1 x3_1)) := ⟨_, rfl⟩
                    replace H : (if 0 ≤ x3_1 then (if x3_1 < (x0_1.length : Int) then (slices_Reverse_byte_byte.l0 k1 (y211.set (x3_1 : Int).toNat (rd x0_1 x2_1)) (wrap64 (x2_1 + 1)) (wrap64 (x3_1 - 1))) else (none)) else (none)) = some r := by first | (rw [hy211]; with_reducible exact H) | (have H2_ := (Option.bind_some _ _).symm.trans H; rw [hy211]; with_reducible exact H2_) | (have H2_ := (Option.bind_some _ _).symm.trans H; with_reducible exact H2_) | with_reducible exact H | (rw [hy211]; exact H) | exact H
                    have Ny211 := Aside0.mk hy211
                    clear hy211
                    by_cases c11 : 0 ≤ x3_1
                    · rw [if_pos c11] at H
                      have c11b0 : decide (0 ≤ x3_1) = true := decide_eq_true c11
                      clear c11
                      by_cases c12 : x3_1 < (x0_1.length : Int)
                      · rw [if_pos c12] at H
                        have c12b0 : decide (x3_1 < (x0_1.length : Int)) = true := decide_eq_true c12
                        clear c12
                        obtain ⟨y212, hy212⟩ : ∃ y_ : List Int, y_ = (y211.set (x3_1 : Int).toNat (rd x0_1 x2_1)) := ⟨_, rfl⟩
                        replace H : (slices_Reverse_byte_byte.l0 k1 y212 (wrap64 (x2_1 + 1)) (wrap64 (x3_1 - 1))) = some r := by first | (rw [hy212]; with_reducible exact H) | (have H2_ := (Option.bind_some _ _).symm.trans H; rw [hy212]; with_reducible exact H2_) | (have H2_ := (Option.bind_some _ _).symm.trans H; with_reducible exact H2_) | with_reducible exact H | (rw [hy212]; exact H) | exact H
                        have Ny212 := Aside0.mk hy212
                        clear hy212
                        have H' := Aside0.mk H
                        clear H
                        try go_wp2
                        have n0_ := Aside0.mk (Bf.R_drew HO_0.out)
                        have n1_ := Aside0.mk (Kept.drew HK.out)
                        have n2_ := Aside0.mk (below_drew1 HB.out)
                        clear HO_0
                        clear HK
                        clear HB
                        have HO_0 := n0_
                        have HK := n1_
                        have HB := n2_
                        clear n0_ n1_ n2_
                        have p209 : 0 ≤ (x3_1 : Int) := of_decide_eq_true (by first | (with_reducible assumption) | assumption)
                        have q209 : x3_1 < (x0_1.length : Int) := of_decide_eq_true (by first | (with_reducible assumption) | assumption)
                        obtain ⟨ad209, e209, hx209_0⟩ := Bf.at_int (Bf.R_reads' HO_0.out).2.2 x3_1 p209 q209
                        cases e209
                        replace p209 := eq_true p209
                        replace q209 := eq_true q209
                        have p210 : 0 ≤ (x2_1 : Int) := of_decide_eq_true (by first | (with_reducible assumption) | assumption)
                        have q210 : x2_1 < (x0_1.length : Int) := of_decide_eq_true (by first | (with_reducible assumption) | assumption)
                        obtain ⟨ad210, e210, hx210_0⟩ := Bf.at_int (Bf.R_reads' HO_0.out).2.2 x2_1 p210 q210
                        obtain rfl : ad209 = ad210 := (by injection e210)
                        replace p210 := eq_true p210
                        replace q210 := eq_true q210
                        have p10 : 0 ≤ (x2_1 : Int) := of_decide_eq_true (by first | (with_reducible assumption) | assumption)
                        have q10 : (x2_1 : Int) < ((x0_1.length : Int) : Int) := of_decide_eq_true (by first | (with_reducible assumption) | assumption)
                        obtain ⟨go10, co10, eo10, gb10, gl10, cl10, HG10⟩ := Bf.R_form HO_0.out (by omega)
                        (first | cases eo10 | (injection eo10 with ea_ en_ ec_; (first | subst ea_ | (injection ea_ with ea_; subst ea_)); subst ec_; clear en_))
                        have GB10 := Aside0.mk gb10
                        have GG10 := Aside0.mk HG10
                        clear gb10 gl10 HG10
                        have HMgo10 := Aside0.mk (show (P0_ go10 ∨ w.heap.size ≤ go10) from GG10.out)
                        (first | simp only [add_plain] at hx209_0 | skip)
                        (first | simp only [add_plain] at hx210_0 | skip)
                        obtain ⟨hx10_0, hf10_0⟩ := Bf.R_celln 0 HO_0.out (x2_1 : Int) p10 q10
                        replace p10 := eq_true p10
                        replace q10 := eq_true q10
                        have HP15 := Bf.R_putn HO_0.out (x2_1 : Int) (rd x0_1 x3_1)
                        rw [← Ny211.out] at HP15
                        have HQ15 := Aside0.mk HP15
                        clear HP15
                        have p13 : 0 ≤ (x3_1 : Int) := of_decide_eq_true (by first | (with_reducible assumption) | assumption)
                        have q13 : (x3_1 : Int) < ((x0_1.length : Int) : Int) := of_decide_eq_true (by first | (with_reducible assumption) | assumption)
                        obtain ⟨hx13_0, hf13_0⟩ := Bf.R_celln 0 HQ15.out (x3_1 : Int) p13 q13
                        replace p13 := eq_true p13
                        replace q13 := eq_true q13
                        have HP16 := Bf.R_putn HQ15.out (x3_1 : Int) (rd x0_1 x2_1)
                        rw [← Ny212.out] at HP16
                        have HQ16 := Aside0.mk HP16
                        clear HP16
                        refine start_ (n := 16) (S := fun w' => w'.cell? ⟨go10, (x3_1).toNat, none⟩ = some (.int .u8 (rd x0_1 x3_1)) ∧ w'.cell? ⟨go10, (x2_1).toNat, none⟩ = some (.int .u8 (rd x0_1 x2_1))) (ds := [13, 15]) #[false, false, false, false, false, false, false, false, false, false, false, false, false, false, false, false] (by kernel_rfl) rfl rfl ⟨hx209_0, hx210_0⟩ (fun hHeld => ?_); refine with_tabW slices_Reverse_byte_byte.tab3 slices_Reverse_byte_byte.bits3 (fun HT_ HW_ => ?_)
                        generalize wr.drew = w14 at HO_0 HK HB GG10 HQ15 HQ16 hf10_0 hf13_0 hx10_0 hx13_0 hx209_0 hx210_0 hHeld ⊢
                        refine pure_ (i := 0) (N := some 14) (v := ?_) (a' := ?_) #[true, false, false, false, false, false, false, false, false, false, false, false, false, false, false, false] rfl rfl (any_of HT_.out (by kernel_rfl)) (fun _ _ _ h => h) (Or.inl ⟨by rfl, ?_⟩) ?_ ?_
                        rotate_left
                        · intro w'
                          go_simp
                          with_reducible rfl
                        rotate_left
                        · simp only [Act.put, List.setIfInBounds_toArray, List.set_cons_zero, List.set_cons_succ, i64_w, i32_w]
                          rfl
                        refine pure_ (i := 1) (N := some 15) (v := ?_) (a' := ?_) #[true, true, false, false, false, false, false, false, false, false, false, false, false, false, false, false] rfl rfl (any_of HT_.out (by kernel_rfl)) (fun _ _ _ h => h) (Or.inl ⟨by rfl, ?_⟩) ?_ ?_
                        rotate_left
                        · intro w'
                          go_simp
                          with_reducible rfl
                        rotate_left
                        · simp only [Act.put, List.setIfInBounds_toArray, List.set_cons_zero, List.set_cons_succ, i64_w, i32_w]
                          rfl
                        refine pure_ (i := 2) (N := some 16) (v := ?_) (a' := ?_) #[true, true, true, false, false, false, false, false, false, false, false, false, false, false, false, false] rfl rfl (any_of HT_.out (by kernel_rfl)) (fun _ _ _ h => h) (Or.inl ⟨by rfl, ?_⟩) ?_ ?_
                        rotate_left
                        · intro w'
                          go_simp
                          with_reducible rfl
                        rotate_left
                        · simp only [Act.put, List.setIfInBounds_toArray, List.set_cons_zero, List.set_cons_succ, i64_w, i32_w]
                          rfl
                        refine pure_ (i := 3) (N := some 17) (v := ?_) (a' := ?_) #[true, true, true, true, false, false, false, false, false, false, false, false, false, false, false, false] rfl rfl (any_of HT_.out (by kernel_rfl)) (fun _ _ _ h => h) (Or.inl ⟨by rfl, ?_⟩) ?_ ?_
                        rotate_left
                        · intro w'
                          go_simp
                          with_reducible rfl
                        rotate_left
                        · simp only [Act.put, List.setIfInBounds_toArray, List.set_cons_zero, List.set_cons_succ, i64_w, i32_w]
                          rfl
                        refine pure_ (i := 4) (N := some 18) (v := ?_) (a' := ?_) #[true, true, true, true, true, false, false, false, false, false, false, false, false, false, false, false] rfl rfl (any_of HT_.out (by kernel_rfl)) (fun _ _ _ h => h) (Or.inl ⟨by rfl, ?_⟩) ?_ ?_
                        rotate_left
                        · intro w'
                          go_simp
                          with_reducible rfl
                        rotate_left
                        · simp only [Act.put, List.setIfInBounds_toArray, List.set_cons_zero, List.set_cons_succ, i64_w, i32_w]
                          rfl
                        refine pure_ (i := 5) (N := some 19) (v := ?_) (a' := ?_) #[true, true, true, true, true, true, false, false, false, false, false, false, false, false, false, false] rfl rfl (any_of HT_.out (by kernel_rfl)) (fun _ _ _ h => h) (Or.inl ⟨by rfl, ?_⟩) ?_ ?_
                        rotate_left
                        · intro w'
                          go_simp
                          with_reducible rfl
                        rotate_left
                        · simp only [Act.put, List.setIfInBounds_toArray, List.set_cons_zero, List.set_cons_succ, i64_w, i32_w]
                          rfl
                        refine pure_ (i := 6) (N := some 20) (v := ?_) (a' := ?_) #[true, true, true, true, true, true, true, false, false, false, false, false, false, false, false, false] rfl rfl (any_of HT_.out (by kernel_rfl)) (fun _ _ _ h => h) (Or.inl ⟨by rfl, ?_⟩) ?_ ?_
                        rotate_left
                        · intro w'
                          go_simp
                          with_reducible rfl
                        rotate_left
                        · simp only [Act.put, List.setIfInBounds_toArray, List.set_cons_zero, List.set_cons_succ, i64_w, i32_w]
                          rfl
                        refine pure_ (i := 8) (N := some 22) (v := ?_) (a' := ?_) #[true, true, true, true, true, true, true, false, true, false, false, false, false, false, false, false] rfl rfl (any_of HT_.out (by kernel_rfl)) (fun _ _ _ h => h) (Or.inl ⟨by rfl, ?_⟩) ?_ ?_
                        rotate_left
                        · intro w'
                          go_simp
                          with_reducible rfl
                        rotate_left
                        · simp only [Act.put, List.setIfInBounds_toArray, List.set_cons_zero, List.set_cons_succ, i64_w, i32_w]
                          rfl
                        refine pure_ (i := 9) (N := some 23) (v := ?_) (a' := ?_) #[true, true, true, true, true, true, true, false, true, true, false, false, false, false, false, false] rfl rfl (any_of HT_.out (by kernel_rfl)) (fun _ _ _ h => h) (Or.inl ⟨by rfl, ?_⟩) ?_ ?_
                        rotate_left
                        · intro w'
                          go_simp
                          with_reducible rfl
                        rotate_left
                        · simp only [Act.put, List.setIfInBounds_toArray, List.set_cons_zero, List.set_cons_succ, i64_w, i32_w]
                          rfl
                        refine pure_ (i := 10) (N := some 24) (v := ?_) (a' := ?_) #[true, true, true, true, true, true, true, false, true, true, true, false, false, false, false, false] rfl rfl (any_of HT_.out (by kernel_rfl)) (fun _ _ _ h => h) (Or.inl ⟨by rfl, ?_⟩) ?_ ?_
                        rotate_left
                        · intro w'
                          go_simp
                          with_reducible rfl
                        rotate_left
                        · simp only [Act.put, List.setIfInBounds_toArray, List.set_cons_zero, List.set_cons_succ, i64_w, i32_w]
                          rfl
                        refine take_ (i := 7) (N := some 21) (v := ?_) (a' := ?_) #[true, true, true, true, true, true, true, true, true, true, true, false, false, false, false, false] rfl rfl (take_ofW HT_.out HW_.out (by kernel_rfl)) (fun _ _ _ h => h) (Or.inl ⟨by rfl, ?_⟩) hHeld ?_ ?_
                        rotate_left
                        · rintro w' ⟨s0, s1⟩
                          go_simp
                          with_reducible rfl
                        rotate_left
                        · simp only [Act.put, List.setIfInBounds_toArray, List.set_cons_zero, List.set_cons_succ, i64_w, i32_w]
                          rfl
                        refine take_ (i := 11) (N := some 25) (v := ?_) (a' := ?_) #[true, true, true, true, true, true, true, true, true, true, true, true, false, false, false, false] rfl rfl (take_ofW HT_.out HW_.out (by kernel_rfl)) (fun _ _ _ h => h) (Or.inl ⟨by rfl, ?_⟩) hHeld ?_ ?_
                        rotate_left
                        · rintro w' ⟨s0, s1⟩
                          go_simp
                          with_reducible rfl
                        rotate_left
                        · simp only [Act.put, List.setIfInBounds_toArray, List.set_cons_zero, List.set_cons_succ, i64_w, i32_w]
                          rfl
                        refine pure_ (i := 12) (N := some 26) (v := ?_) (a' := ?_) #[true, true, true, true, true, true, true, true, true, true, true, true, true, false, false, false] rfl rfl (any_of HT_.out (by kernel_rfl)) (fun _ _ _ h => h) (Or.inl ⟨by rfl, ?_⟩) ?_ ?_
                        rotate_left
                        · intro w'
                          go_simp
                          with_reducible rfl
                        rotate_left
                        · simp only [Act.put, List.setIfInBounds_toArray, List.set_cons_zero, List.set_cons_succ, i64_w, i32_w]
                          rfl
                        refine last_ (i := 13) (N := none) #[true, true, true, true, true, true, true, true, true, true, true, true, true, true, false, false] rfl rfl (one_of HT_.out (by kernel_rfl)) (by decide) (fun K hK => ?_)
                        refine skip_ (w1 := ?_) (by rfl) rfl ?_ ?_
                        rotate_left
                        · go_simp
                          rfl
                        refine hK.out _ _ ?_
                        clear hK K
                        refine pure_ (i := 14) (N := some 27) (v := ?_) (a' := ?_) #[true, true, true, true, true, true, true, true, true, true, true, true, true, true, true, false] rfl rfl (any_of HT_.out (by kernel_rfl)) (fun _ _ _ h => h) (Or.inl ⟨by rfl, ?_⟩) ?_ ?_
                        rotate_left
                        · intro w'
                          go_simp
                          with_reducible rfl
                        rotate_left
                        · simp only [Act.put, List.setIfInBounds_toArray, List.set_cons_zero, List.set_cons_succ, i64_w, i32_w]
                          rfl
                        refine last_ (i := 15) (N := none) #[true, true, true, true, true, true, true, true, true, true, true, true, true, true, true, true] rfl rfl (one_of HT_.out (by kernel_rfl)) (by decide) (fun K hK => ?_)
                        refine skip_ (w1 := ?_) (by rfl) rfl ?_ ?_
                        rotate_left
                        · go_simp
                          rfl
                        refine hK.out _ _ ?_
                        clear hK K
                        refine done_ (done_of HT_.out (by kernel_rfl)) ?_
                        try go_wp2
                        (try simp only [← hl0_1])
                        go_roundg k1
                        case measure => have := HK1.out; omega
                        case rel => exact ⟨(y212), (wrap64 (x2_1 + 1)), (wrap64 (x3_1 - 1)), (by first | rfl | (simp; done) | (simp [*]; done)), (by first | rfl | (simp; done) | (simp [*]; done)), H', ⟨by have := HK1.out; omega⟩, ⟨by (try simp only [hl0_1]); (with_reducible repeat (first | apply Bf.R_alloc | apply Bf.R_drewN | apply Bf.R_drew)); exact HQ16.out⟩, ⟨by repeat (first | (with_reducible first | exact HK.out | apply Kept.alloc | apply Kept.drewN | apply Kept.drew | refine Kept.setCell ?_ HMgo10.out _ | refine Kept.setCell ?_ HMgo10.out _) | exact HK.out)⟩, ⟨by repeat (first | (with_reducible first | exact HB.out | apply below_alloc | apply pw_below_drewN | apply below_drew1 | refine below_set ?_ GB10.out | refine below_set ?_ GB10.out) | exact HB.out)⟩⟩
                      · rw [if_neg c12] at H
                        exact absurd H (by simp)
                    · rw [if_neg c11] at H
                      exact absurd H (by simp)
                  · rw [if_neg c9] at H
                    exact absurd H (by simp)
                · rw [if_neg c8] at H
                  exact absurd H (by simp)
              · rw [if_neg c7] at H
                exact absurd H (by simp)
            · rw [if_neg c6] at H
              exact absurd H (by simp)
          · rw [if_neg c5] at H
            exact absurd H (by simp)
        · rw [if_neg c4] at H
          exact absurd H (by simp)
      · rw [if_neg c3] at H
        have c3b0 : decide (x2_1 < x3_1) = false := decide_eq_false c3
        clear c3
        obtain rfl := Option.some.inj H
        go_wp2
        first | go_end0 | ((try simp only [Exit.inBlock, Exit.then]); refine bodyPost_ret (results_none rfl _ _ _) rfl ?_)
        exact ⟨by first | rfl | (simp [errW_none, errW_some] <;> rfl) | (simp [*, errW_none, errW_some] <;> rfl), (by first | exact (by (with_reducible repeat (first | apply Bf.R_alloc | apply Bf.R_drewN | apply Bf.R_drew)); exact HO_0.out) | (simp only [hl0_1]; exact (by (with_reducible repeat (first | apply Bf.R_alloc | apply Bf.R_drewN | apply Bf.R_drew)); exact HO_0.out))), by repeat (first | (with_reducible first | exact HB.out | apply below_alloc | apply pw_below_drewN | apply below_drew1) | exact HB.out), by repeat (first | (with_reducible first | exact HK.out | apply Kept.alloc | apply Kept.drewN | apply Kept.drew) | exact HK.out)⟩
theorem bt_dirs (x : Int) (h0 : 0 ≤ Go.bits .xor .i64 x 1) (h1 : Go.bits .xor .i64 x 1 < 6) : bt dirsB (Go.bits .xor .i64 x 1) = (((⟨#[117, 100, 108, 114, 102, 98]⟩ : ByteArray)[(Go.bits .xor .i64 x 1).toNat]'(show (Go.bits .xor .i64 x 1).toNat < 6 by omega)).toNat : Int) := by
  unfold bt
  rw [dif_pos (show (Go.bits .xor .i64 x 1).toNat < dirsB.size from (show (Go.bits .xor .i64 x 1).toNat < 6 by omega))]
  rfl
theorem conv_event {ops : Array Oper} {rest : List Oper} {o : Oper} {a : Act} {Q : Exit → Act → World → Prop} {W : World} {B : Nat} (hB : B ≤ W.heap.size) (s : ByteArray) (x : Operand) (hgd : o.guard = none) (hop : o.op = .convert 9 22 x) (hx : a.eval x = .string s)
    (h : ∀ g c w1, g = W.heap.size → Bf.R 5 w1 B (fun k => k = g) (.slice (some ⟨g, 0, none⟩) s.size c) (bytesOf s) → Below W.heap.size W w1 → wpList Tryz.prog ops Q rest (a.put o.dst (.slice (some ⟨g, 0, none⟩) s.size c)) w1) : wpList Tryz.prog ops Q (o :: rest) a W := by
  have hrun := run_bytes_of_string (P := Tryz.prog) W 9 22 5 s Tryz.underlying9 Tryz.underlying22 Tryz.underlying5
  refine Kd.event_run hgd (v := .slice (some ⟨W.heap.size, 0, none⟩) s.size (grownCap W s.size 0 5)) (w1 := W.drew.alloc (.cells (bytesRow s (grownCap W s.size 0 5)) 5 ((bytesRow s (grownCap W s.size 0 5)).size, (bytesRow s (grownCap W s.size 0 5)).size + 1))) ?_ ?_
  · unfold execOp
    simp only [hop, hx]
    rw [Sem.run_bind, hrun]
    rfl
  · have hz : (bytesOf s).length = s.size := by rw [bytesOf, List.length_map]; exact Array.length_toList
    have hr : (bytesRow s (grownCap W s.size 0 5)).size = s.size + (grownCap W s.size 0 5 - s.size) := by rw [bytesRow, Array.size_append, Array.size_map, Array.size_replicate]; rfl
    refine h W.heap.size (grownCap W s.size 0 5) _ rfl ⟨W.heap.size, grownCap W s.size 0 5, bytesRow s (grownCap W s.size 0 5), by rw [hz], rfl, hB, blk_new W.drew _, ?_, ?_, ?_⟩ ?_
    · rw [hz]; exact grownCap_ge _ _ _ _
    · rw [hz, hr]; omega
    · intro j hj
      have hj' : j < s.size := by omega
      rw [bytesRow, Array.getElem?_append_left (by rw [Array.size_map]; exact hj'), Array.getElem?_map]
      have e : s.data[j]? = some s.data[j] := Array.getElem?_eq_getElem hj'
      rw [e]
      simp only [bytesOf, List.getElem_map, Array.getElem_toList, Option.map_some]
    · exact below_alloc (below_drew1 (Below.refl _ _)) _
theorem back_event {ops : Array Oper} {rest : List Oper} {o : Oper} {a : Act} {Q : Exit → Act → World → Prop} {W : World} {B g c m : Nat} {xs : List Int} (x : Operand) (hgd : o.guard = none) (hop : o.op = .convert 22 9 x) (hx : a.eval x = .slice (some ⟨g, 0, none⟩) m c) (hR : Bf.R 5 W B (fun _ => True) (.slice (some ⟨g, 0, none⟩) m c) xs)
    (h : wpList Tryz.prog ops Q rest (a.put o.dst (.string (strOfNums xs))) W) : wpList Tryz.prog ops Q (o :: rest) a W := by
  obtain ⟨h1, h2, g', e, h3⟩ := Bf.R_reads' hR
  injection e with e
  injection e with e
  subst e
  have hrun := run_convert_bytes_arg (P := Tryz.prog) W 22 5 Tryz.underlying22 Tryz.underlying5 g 0 m c xs h1.symm (fun i hi => by
    have := h3 (i : Int) (by omega) (by omega)
    rw [Nat.zero_add]
    exact this) 9 Tryz.underlying9
  refine Kd.event_run hgd (v := .string (strOfNums xs)) (w1 := W) ?_ h
  unfold execOp
  simp only [hop, hx]
  rw [Sem.run_bind, hrun]
  rfl
set_option maxHeartbeats 8000000 in
set_option maxRecDepth 100000 in
theorem impl_ReverseMove.calls (k : Nat) (s : ByteArray) (n : Int) (r1 : ByteArray) (r2 : Int) (r3 : Bool) (w : World) (h : impl_ReverseMove.f k s n = some (r1, r2, r3)) :
    Calls Tryz.prog 7 #[.agg #[.string s, .int .i64 n]] w fun e w' => e = .returned (.tuple #[.agg #[.string r1, .int .i64 r2], .bool r3]) ∧ Below w.heap.size w w' := by
  have hu24 := Tryz.underlying24
  unfold impl_ReverseMove.f at h
  obtain ⟨t, A20, H⟩ := Option.bind_eq_some_iff.mp h
  have A2 := Aside0.mk A20
  clear A20 h
  by_cases c3 : t = true
  · subst c3
    rw [if_pos rfl] at H
    obtain ⟨l1, A30, H⟩ := Option.bind_eq_some_iff.mp H
    obtain ⟨l2, A40, H⟩ := Option.bind_eq_some_iff.mp H
    simp only [Option.some.injEq, Prod.mk.injEq] at H
    obtain ⟨rfl, rfl, rfl⟩ := H
    have A3 := Aside0.mk A30
    have A4 := Aside0.mk A40
    clear A30 A40
    go_enter Tryz.func7, Tryz.ntmps7
    go_wp2_with (first
      | ((with_reducible refine gate_dst (N := 1) rfl ?_); refine box_event ?hg (N := 1) ?hd (cs := #[.string s, .int .i64 n]) (t := 24) ?hr ?_; (case hd => rfl); (case hg => rfl); (case hr => first | (go_simp; done) | (go_simp; rfl)); intro g1 hg1 w1 hbox1 hb1; have BK1 := Aside0.mk hbox1; have HB := Aside0.mk hb1; have HG1 := Aside0.mk (hg1 ▸ Nat.le_refl _ : w.heap.size ≤ g1); clear hbox1 hb1 hg1)
      | ((with_reducible refine gate_dst (N := 2) rfl ?_); refine box_event ?hg (N := 2) ?hd (cs := #[.string (⟨#[]⟩ : ByteArray), .int .i64 0]) (t := 24) ?hr ?_; (case hd => rfl); (case hg => rfl); (case hr => first | (go_simp; done) | (go_simp; rfl)); intro g2 hg2 w2 hbox2 hb2; have hne := Nat.ne_of_lt (hg2 ▸ blk_lt BK1.out : g1 < g2); have n1_ := Aside0.mk (blk_below BK1.out hb2); have HG2 := Aside0.mk (hg2 ▸ HB.out.size : w.heap.size ≤ g2); have n2_ := Aside0.mk (HB.out.trans (hb2.mono HB.out.size)); clear BK1 HB; have BK1 := n1_; have HB := n2_; have BK2 := Aside0.mk hbox2; clear hbox2 hb2 hg2 n1_ n2_; have hc1 : w2.cell? ⟨g1, 0, none⟩ = some (.string s) := (blk_cell BK1.out 0).trans rfl; have hc2 : w2.cell? ⟨g1, 1, none⟩ = some (.int .i64 n) := (blk_cell BK1.out 1).trans rfl)
      | ((with_reducible refine gate_callee (f := 20) rfl ?_); refine goesL_ (some 8) rfl rfl Tryz.func20 (by kernel_rfl) rfl #[.agg #[.string s, .int .i64 n]] rfl args_ ?_; (with_reducible refine (impl_IsMove.calls k s n true _ A2.out).mono ?_); rintro e w3 ⟨rfl, hb3⟩; refine ⟨_, rfl, ?_⟩; have n1_ := Aside0.mk (blk_below BK1.out hb3); have n2_ := Aside0.mk (blk_below BK2.out hb3); have n3_ := Aside0.mk (HB.out.trans (hb3.mono HB.out.size)); clear BK1 BK2 HB; have BK1 := n1_; have BK2 := n2_; have HB := n3_; clear n1_ n2_ n3_ hb3; have hd1 : w3.cell? ⟨g1, 0, none⟩ = some (.string s) := (blk_cell BK1.out 0).trans rfl; have hd2 : w3.cell? ⟨g1, 1, none⟩ = some (.int .i64 n) := (blk_cell BK1.out 1).trans rfl)
      | ((with_reducible refine gate_dst (N := 13) rfl ?_); refine conv_event HB.out.size s _ rfl rfl rfl ?_; intro g3 c3 w4 hg3 hr4 hb4; have hne1 : g1 ≠ g3 := Nat.ne_of_lt (hg3 ▸ blk_lt BK1.out); have hne2 : g2 ≠ g3 := Nat.ne_of_lt (hg3 ▸ blk_lt BK2.out); have HG3 := Aside0.mk (hg3 ▸ HB.out.size : w.heap.size ≤ g3); have RR := Aside0.mk hr4; have n1_ := Aside0.mk (blk_below BK1.out hb4); have n2_ := Aside0.mk (blk_below BK2.out hb4); have n3_ := Aside0.mk (HB.out.trans (hb4.mono HB.out.size)); clear BK1 BK2 HB; have BK1 := n1_; have BK2 := n2_; have HB := n3_; clear n1_ n2_ n3_ hb4 hr4 hg3)
      | ((with_reducible refine gate_callee (f := 27) rfl ?_); refine goesL_ (some 15) rfl rfl Tryz.func27 (by kernel_rfl) rfl #[.slice (some ⟨g3, 0, none⟩) s.size c3] rfl args_ ?_; (with_reducible refine (revCallsB k (fun k => k = g3) _ (bytesOf s) l1 w _ HB.out RR.out A3.out).mono ?_); rintro e w5 ⟨rfl, hr5, hb5, hk5⟩; refine ⟨_, rfl, ?_⟩; have n1_ := Aside0.mk (blk_kept BK1.out hk5 hne1); have n2_ := Aside0.mk (blk_kept BK2.out hk5 hne2); have n3_ := Aside0.mk (Bf.R_mono hr5 (ok' := fun _ => True) (fun _ _ => trivial)); clear BK1 BK2 HB RR; have BK1 := n1_; have BK2 := n2_; have HB := Aside0.mk hb5; have RR := n3_; clear n1_ n2_ n3_ hb5 hk5 hr5))
    go_loopg [18] k (fun kq v18 w' => ∃ (x0 : List Int) (i : Int), v18 = .int .i64 i ∧ Aside0 (impl_ReverseMove.l0 kq x0 i = some l2) ∧ Aside0 (kq ≤ k) ∧ Aside0 (Bf.R 5 w' w.heap.size (fun _ => True) (.slice (some ⟨g3, 0, none⟩) s.size c3) x0) ∧ Aside0 (w'.heap[g1]? = some (Obj.cells #[Value.string s, Value.int IntKind.i64 n] 24)) ∧ Aside0 (w'.heap[g2]? = some (Obj.cells #[Value.string ⟨#[]⟩, Value.int IntKind.i64 0] 24)) ∧ Aside0 (Below w.heap.size w w'))
    case atStart => exact ⟨l1, 0, rfl, A4, ⟨Nat.le_refl _⟩, RR, BK1, BK2, HB⟩
    case round =>
      clear A4 RR BK1 BK2 HB hc1 hc2 hd1 hd2
      obtain ⟨x0, i, rfl, HA, HK1, RR, BK1, BK2, HB⟩ := hrel
      have hl := (Bf.R_reads' RR.out).1
      cases gk with
      | zero => exact absurd HA.out (by simp [impl_ReverseMove.l0])
      | succ k1 =>
        have H := HA.out
        clear HA
        simp only [impl_ReverseMove.l0, ← hl] at H
        have HL := Aside0.mk hl
        clear hl
        by_cases c4 : i < (s.size : Int)
        · rw [if_pos c4] at H
          by_cases c5 : 0 ≤ i
          · rw [if_pos c5] at H
            obtain ⟨x, hy⟩ : ∃ x, x = Lib.indexByte dirsB.data.toList (rd x0 i).toNat.toUInt8 := ⟨_, rfl⟩
            rw [← hy] at H
            have HY := Aside0.mk hy
            clear hy
            by_cases c6 : 0 ≤ Go.bits .xor .i64 x 1
            · rw [if_pos c6] at H
              by_cases c7 : Go.bits .xor .i64 x 1 < 6
              · rw [if_pos c7] at H
                have H' := Aside0.mk H
                clear H
                obtain ⟨ad, e, hx⟩ := Bf.at_int (Bf.R_reads' RR.out).2.2 i c5 (by have := HL.out; omega)
                injection e with e
                subst e
                simp only [add_plain] at hx
                obtain ⟨hx2, hf⟩ := Bf.R_celln 0 RR.out i c5 (by have := HL.out; omega)
                have HP := Aside0.mk (Bf.R_putn RR.out i (bt dirsB (Go.bits .xor .i64 x 1)))
                clear hx2
                have c4b := decide_eq_true c4
                have hx8 := bt_at dirsB (Go.bits .xor .i64 x 1)
                have p4 := eq_true c4
                have p5 := eq_true c5
                have p6 := eq_true c6
                have p7 := eq_true c7
                clear c4 c5 c6 c7
                go_wp2_with (first
                  | ((with_reducible refine gate_callee (f := 28) rfl ?_); refine goesL_ (some 26) rfl rfl Tryz.func28 (by kernel_rfl) rfl #[.string dirsB, .int .u8 (rd x0 i)] rfl args_ ?_; (with_reducible refine (Tryz.strings_IndexByte dirsB (rd x0 i) _).mono ?_); rw [← HY.out]; rintro e w6 ⟨rfl, rfl⟩; refine ⟨_, rfl, ?_⟩))
                go_roundg k1
                case measure => have := HK1.out; omega
                case rel => exact ⟨_, _, rfl, H', ⟨by have := HK1.out; omega⟩, ⟨by rw [← bt_dirs x (of_eq_true p6) (of_eq_true p7)]; exact HP.out⟩, ⟨blk_far BK1.out hne1 _⟩, ⟨blk_far BK2.out hne2 _⟩, ⟨below_set HB.out HG3.out⟩⟩
              · rw [if_neg c7] at H; exact absurd H (by simp)
            · rw [if_neg c6] at H; exact absurd H (by simp)
          · rw [if_neg c5] at H; exact absurd H (by simp)
        · rw [if_neg c4] at H
          have c4b := decide_eq_false c4
          clear c4
          obtain rfl := Option.some.inj H
          have hc1 : wr.cell? ⟨g1, 0, none⟩ = some (.string s) := (blk_cell BK1.out 0).trans rfl
          have hc2 : wr.cell? ⟨g1, 1, none⟩ = some (.int .i64 n) := (blk_cell BK1.out 1).trans rfl
          have hd1 : wr.cell? ⟨g2, 0, none⟩ = some (.string ⟨#[]⟩) := (blk_cell BK2.out 0).trans rfl
          have hd2 : wr.cell? ⟨g2, 1, none⟩ = some (.int .i64 0) := (blk_cell BK2.out 1).trans rfl
          have hf1 := blk_frozen BK2.out 0
          have hf2 := blk_frozen BK2.out 1
          go_wp2_with (first
            | ((with_reducible refine gate_dst (N := 32) rfl ?_); refine back_event _ rfl rfl rfl RR.out ?_))
          refine bodyPost_ret (results_ct rfl _ _ g2 24 #[.string (strOfNums x0), .int .i64 n] (0, 0) _ rfl (by refine blk_put (cs := #[.string (strOfNums x0), .int .i64 0]) ?_ 1 _ rfl; refine blk_put (cs := #[.string (⟨#[]⟩ : ByteArray), .int .i64 0]) ?_ 0 _ rfl; exact BK2.out) Tryz.underlying24 rfl (by kernel_rfl)) rfl ?_
          exact ⟨rfl, below_set (below_set HB.out HG2.out) HG2.out⟩
  · replace c3 := Bool.eq_false_iff.mpr c3
    subst c3
    rw [if_neg (show ¬ (false = true) by decide)] at H
    simp only [Option.some.injEq, Prod.mk.injEq] at H
    obtain ⟨rfl, rfl, rfl⟩ := H
    go_enter Tryz.func7, Tryz.ntmps7
    go_wp2_with (first
      | ((with_reducible refine gate_dst (N := 1) rfl ?_); refine box_event ?hg (N := 1) ?hd (cs := #[.string s, .int .i64 n]) (t := 24) ?hr ?_; (case hd => rfl); (case hg => rfl); (case hr => first | (go_simp; done) | (go_simp; rfl)); intro g1 hg1 w1 hbox1 hb1; have BK1 := Aside0.mk hbox1; have HB := Aside0.mk hb1; have HG1 := Aside0.mk (hg1 ▸ Nat.le_refl _ : w.heap.size ≤ g1); clear hbox1 hb1 hg1)
      | ((with_reducible refine gate_dst (N := 2) rfl ?_); refine box_event ?hg (N := 2) ?hd (cs := #[.string (⟨#[]⟩ : ByteArray), .int .i64 0]) (t := 24) ?hr ?_; (case hd => rfl); (case hg => rfl); (case hr => first | (go_simp; done) | (go_simp; rfl)); intro g2 hg2 w2 hbox2 hb2; have hne := Nat.ne_of_lt (hg2 ▸ blk_lt BK1.out : g1 < g2); have n1_ := Aside0.mk (blk_below BK1.out hb2); have HG2 := Aside0.mk (hg2 ▸ HB.out.size : w.heap.size ≤ g2); have n2_ := Aside0.mk (HB.out.trans (hb2.mono HB.out.size)); clear BK1 HB; have BK1 := n1_; have HB := n2_; have BK2 := Aside0.mk hbox2; clear hbox2 hb2 hg2 n1_ n2_; have hc1 : w2.cell? ⟨g1, 0, none⟩ = some (.string s) := (blk_cell BK1.out 0).trans rfl; have hc2 : w2.cell? ⟨g1, 1, none⟩ = some (.int .i64 n) := (blk_cell BK1.out 1).trans rfl)
      | ((with_reducible refine gate_callee (f := 20) rfl ?_); refine goesL_ (some 8) rfl rfl Tryz.func20 (by kernel_rfl) rfl #[.agg #[.string s, .int .i64 n]] rfl args_ ?_; (with_reducible refine (impl_IsMove.calls k s n false _ A2.out).mono ?_); rintro e w3 ⟨rfl, hb3⟩; refine ⟨_, rfl, ?_⟩; have n1_ := Aside0.mk (blk_below BK1.out hb3); have n2_ := Aside0.mk (blk_below BK2.out hb3); have n3_ := Aside0.mk (HB.out.trans (hb3.mono HB.out.size)); clear BK1 BK2 HB; have BK1 := n1_; have BK2 := n2_; have HB := n3_; clear n1_ n2_ n3_ hb3; have hd1 : w3.cell? ⟨g2, 0, none⟩ = some (.string ⟨#[]⟩) := (blk_cell BK2.out 0).trans rfl; have hd2 : w3.cell? ⟨g2, 1, none⟩ = some (.int .i64 0) := (blk_cell BK2.out 1).trans rfl; have hf1 := blk_frozen BK2.out 0; have hf2 := blk_frozen BK2.out 1))
    refine bodyPost_ret (results_ct rfl _ _ g2 24 #[.string (⟨#[]⟩ : ByteArray), .int .i64 0] (0, 0) _ rfl (by refine blk_put (cs := #[.string (⟨#[]⟩ : ByteArray), .int .i64 0]) ?_ 1 _ rfl; refine blk_put (cs := #[.string (⟨#[]⟩ : ByteArray), .int .i64 0]) ?_ 0 _ rfl; exact BK2.out) Tryz.underlying24 rfl (by kernel_rfl)) rfl ?_
    exact ⟨rfl, below_set (below_set HB.out HG2.out) HG2.out⟩

def impl_ReverseMove.e (k : Nat) : Refl.Ent G := ⟨7, [(.agg [.str, li])], .tup [(.agg [.str, li]), (.c .bool)], fun x => impl_ReverseMove.f k x.1 x.2⟩
theorem impl_ReverseMove.ok (k : Nat) : Refl.EntOK Tryz.prog (impl_ReverseMove.e k) := Refl.entOK_hand Tryz.func7 (by kernel_rfl) (fun x => by kernel_rfl) (fun y => ⟨by kernel_rfl, by kernel_rfl, by kernel_rfl, by kernel_rfl⟩) (fun x y h w => impl_ReverseMove.calls k x.1 x.2 y.1 y.2.1 y.2.2 w h)

/-! ### spec_mvBack: function 29 -/

def spec_mvBack.l0 : Nat → ByteArray → Int → ByteArray → Int → Option (ByteArray × Int)
  | 0, _, _, _, _ => none
  | k + 1, x3, x4, x214000, x214001 => if x4 ≥ 0 then (if 0 ≤ x4 then (if x4 < (x214000.size : Int) then ((spec_mvIndex.f k (bt x214000 x4)).bind fun t215 => ((spec_mvLetters.f).bind fun t216 => (if 0 ≤ (wrap64 (t215 + (wrap64 (1 - (wrap64 (2 * (Int.tmod t215 2))))))) then (if (wrap64 (t215 + (wrap64 (1 - (wrap64 (2 * (Int.tmod t215 2))))))) ≤ (wrap64 ((wrap64 (t215 + (wrap64 (1 - (wrap64 (2 * (Int.tmod t215 2))))))) + 1)) then (if (wrap64 ((wrap64 (t215 + (wrap64 (1 - (wrap64 (2 * (Int.tmod t215 2))))))) + 1)) ≤ (t216.size : Int) then (if x3.size + (t216.extract ((wrap64 (t215 + (wrap64 (1 - (wrap64 (2 * (Int.tmod t215 2))))))) : Int).toNat ((wrap64 ((wrap64 (t215 + (wrap64 (1 - (wrap64 (2 * (Int.tmod t215 2))))))) + 1)) : Int).toNat).size ≤ 9223372036854775807 then (spec_mvBack.l0 k (x3 ++ (t216.extract ((wrap64 (t215 + (wrap64 (1 - (wrap64 (2 * (Int.tmod t215 2))))))) : Int).toNat ((wrap64 ((wrap64 (t215 + (wrap64 (1 - (wrap64 (2 * (Int.tmod t215 2))))))) + 1)) : Int).toNat)) (wrap64 (x4 - 1)) x214000 x214001) else (none)) else (none)) else (none)) else (none)))) else (none)) else (none)) else (some (x3, x214001))

def spec_mvBack.f (k : Nat) (a0_0 : ByteArray) (a0_1 : Int) : Option (ByteArray × Int) := spec_mvBack.l0 k (⟨#[]⟩ : ByteArray) (wrap64 ((a0_0.size : Int) - 1)) a0_0 a0_1

theorem spec_mvBack.mono_l : ∀ k, (∀ y0 y1 y2 y3, LeO (spec_mvBack.l0 k y0 y1 y2 y3) (spec_mvBack.l0 (k + 1) y0 y1 y2 y3))
  | 0 => fun _ _ _ _ r h => by simp [spec_mvBack.l0] at h
  | k + 1 => by
    have ih0 := spec_mvBack.mono_l k
    · intro y0 y1 y2 y3
      unfold spec_mvBack.l0
      repeat' first
      | (with_reducible exact ih0 _ _ _ _)
      | (with_reducible exact spec_mvIndex.mono _ _)
      | (with_reducible exact LeO.refl _)
      | (with_reducible exact LeO.none _)
      | (with_reducible refine LeO.ite ?_ ?_)
      | (with_reducible refine LeO.bind ?_ (fun _ => ?_))
      | exact ih0 _ _ _ _
      | exact spec_mvIndex.mono _ _
      | exact LeO.none _
      | refine LeO.ite ?_ ?_
      | refine LeO.bind ?_ (fun _ => ?_)

theorem spec_mvBack.mono : ∀ a0 a1 k, LeO (spec_mvBack.f k a0 a1) (spec_mvBack.f (k + 1) a0 a1) := by
  intro a0 a1 k
  have ih0 := spec_mvBack.mono_l k
  unfold spec_mvBack.f
  repeat' first
      | (with_reducible exact ih0 _ _ _ _)
      | (with_reducible exact spec_mvIndex.mono _ _)
      | (with_reducible exact LeO.refl _)
      | (with_reducible exact LeO.none _)
      | (with_reducible refine LeO.ite ?_ ?_)
      | (with_reducible refine LeO.bind ?_ (fun _ => ?_))
      | exact ih0 _ _ _ _
      | exact spec_mvIndex.mono _ _
      | exact LeO.none _
      | refine LeO.ite ?_ ?_
      | refine LeO.bind ?_ (fun _ => ?_)

def spec_mvBack.e (k : Nat) : Refl.Ent G := ⟨29, [(.agg [.str, li])], .one (.agg [.str, li]), fun x => spec_mvBack.f k x.1 x.2⟩
def spec_mvBack.pl0 : Refl.Pn G (Refl.PT G (spec_mvBack.e 0).ol) := ⟨true, 0, ⟨[(3, .v (.c .str)), (4, .v (.c li)), (1, .box 1 0), (2, .box 2 0)], [(1, 24, gL2), (2, 24, gL3)]⟩, fun k x => spec_mvBack.l0 k x.1 x.2.1 x.2.2.1 x.2.2.2⟩
theorem spec_mvBack.ok (k : Nat) : Refl.EntOK Tryz.prog (spec_mvBack.e k) := Refl.ent_ok 1000000 k GC (fun k => [spec_mvIndex.e k, spec_mvLetters.e k]) (fun k => ⟨spec_mvIndex.ok k, spec_mvLetters.ok k, trivial⟩) Tryz.func29 (by kernel_rfl) [spec_mvBack.pl0] (ps := [spec_mvBack.pl0]) (by kernel_rfl) ⟨⟨fun x => by kernel_rfl, fun k x => by kernel_rfl⟩, trivial⟩ (fun x => by kernel_rfl)

/-! ### spec_ReverseMove: function 8 -/

def spec_ReverseMove.f (k : Nat) (a0_0 : ByteArray) (a0_1 : Int) : Option (ByteArray × Int × Bool) := (spec_mvGood.f k a0_0 a0_1).bind fun t219 => (if t219 = true then ((spec_mvBack.f k a0_0 a0_1).bind fun bt220 => (some (bt220.1, bt220.2, true))) else (some ((⟨#[]⟩ : ByteArray), 0, false)))

theorem spec_ReverseMove.mono : ∀ a0 a1 k, LeO (spec_ReverseMove.f k a0 a1) (spec_ReverseMove.f (k + 1) a0 a1) := by
  intro a0 a1 k
  unfold spec_ReverseMove.f
  repeat' first
      | (with_reducible exact spec_mvBack.mono _ _ _)
      | (with_reducible exact spec_mvGood.mono _ _ _)
      | (with_reducible exact LeO.refl _)
      | (with_reducible exact LeO.none _)
      | (with_reducible refine LeO.ite ?_ ?_)
      | (with_reducible refine LeO.bind ?_ (fun _ => ?_))
      | exact spec_mvBack.mono _ _ _
      | exact spec_mvGood.mono _ _ _
      | exact LeO.none _
      | refine LeO.ite ?_ ?_
      | refine LeO.bind ?_ (fun _ => ?_)

def spec_ReverseMove.e (k : Nat) : Refl.Ent G := ⟨8, [(.agg [.str, li])], .tup [(.agg [.str, li]), (.c .bool)], fun x => spec_ReverseMove.f k x.1 x.2⟩
theorem spec_ReverseMove.ok (k : Nat) : Refl.EntOK Tryz.prog (spec_ReverseMove.e k) := Refl.ent_ok 1000000 k GC (fun k => [spec_mvGood.e k, spec_mvBack.e k]) (fun k => ⟨spec_mvGood.ok k, spec_mvBack.ok k, trivial⟩) Tryz.func8 (by kernel_rfl) [] (ps := []) (by kernel_rfl) trivial (fun x => by kernel_rfl)

/-! ### impl_Move_mirrored: function 30 -/

def impl_Move_mirrored.f (a0_0 : ByteArray) (a0_1 : Int) : Option (ByteArray × Int) := if a0_0.size ≤ 1000000 then some (mirS a0_0, a0_1) else none
set_option maxHeartbeats 4000000 in
set_option maxRecDepth 100000 in
theorem impl_Move_mirrored.calls (a0_0 : ByteArray) (a0_1 : Int) (r1 : ByteArray) (r2 : Int) (w : World) (h : impl_Move_mirrored.f a0_0 a0_1 = some (r1, r2)) :
    Calls Tryz.prog 30 #[.agg #[.string a0_0, .int .i64 a0_1]] w fun e w' => e = .returned (.agg #[.string r1, .int .i64 r2]) ∧ Below w.heap.size w w' := by
  unfold impl_Move_mirrored.f at h
  by_cases hs : a0_0.size ≤ 1000000
  · rw [if_pos hs] at h
    simp only [Option.some.injEq, Prod.mk.injEq] at h
    obtain ⟨rfl, rfl⟩ := h
    have HS := Aside0.mk hs
    have HB := Aside0.mk (Below.refl w.heap.size w)
    clear hs
    go_enter Tryz.func30, Tryz.ntmps30
    go_wp2_with (first
      | ((with_reducible refine gate_dst (N := 1) rfl ?_); refine box_event ?hg (N := 1) ?hd (cs := #[.string a0_0, .int .i64 a0_1]) (t := 24) ?hr ?_; (case hd => rfl); (case hg => rfl); (case hr => first | (go_simp; done) | (go_simp; rfl)); intro g1 hg1 w1 hbox hb; have BK1 := Aside0.mk hbox; have HB1 := Aside0.mk hb; clear hbox hb hg1 HB)
      | ((with_reducible refine gate_dst (N := 2) rfl ?_); refine box_event ?hg (N := 2) ?hd (cs := #[.string ⟨#[]⟩, .int .i64 0]) (t := 24) ?hr ?_; (case hd => rfl); (case hg => rfl); (case hr => first | (go_simp; done) | (go_simp; rfl)); intro g2 hg2 w2 hbox hb; have BK1r := Aside0.mk (blk_below BK1.out hb); have BK2 := Aside0.mk hbox; have GE2 := Aside0.mk (show w.heap.size ≤ g2 by rw [hg2]; exact below_size HB1.out); have HB2 := Aside0.mk (below_step HB1.out hb); clear hbox hb hg2 BK1 HB1))
    have d0 : w2.cell? ⟨g1, 0, none⟩ = some (.string a0_0) := (blk_cell BK1r.out 0).trans rfl
    have d1 : w2.cell? ⟨g1, 1, none⟩ = some (.int .i64 a0_1) := (blk_cell BK1r.out 1).trans rfl
    have a0 : ∀ o, (w2.alloc o).cell? ⟨g1, 0, none⟩ = some (.string a0_0) := fun o => (blk_cell (blk_alloc BK1r.out o) 0).trans rfl
    have a1 : ∀ o, (w2.alloc o).cell? ⟨g1, 1, none⟩ = some (.int .i64 a0_1) := fun o => (blk_cell (blk_alloc BK1r.out o) 1).trans rfl
    have d2 : w2.cell? ⟨g2, 0, none⟩ = some (.string ⟨#[]⟩) := (blk_cell BK2.out 0).trans rfl
    have d3 : w2.cell? ⟨g2, 1, none⟩ = some (.int .i64 0) := (blk_cell BK2.out 1).trans rfl
    have z2 : w2.frozen? ⟨g2, 0, none⟩ = false := blk_frozen BK2.out 0
    have z3 : w2.frozen? ⟨g2, 1, none⟩ = false := blk_frozen BK2.out 1
    go_region_with (first
      | (go_at_call 48; refine (mr_new _ 9 _ (by first | exact blk_new _ _ | exact blk_drew (blk_new _ _) | exact blk_drewN (blk_new _ _) _)).mono ?_; rintro e w3 ⟨g, bk, cp, rfl, hrp, h4, hne, hge, hb3⟩; have HB3 : Aside0 (Below w2.heap.size w2 w3) := ⟨below_step (by repeat (first | exact Below.refl _ _ | apply below_drew1 | apply pw_below_drewN | apply below_alloc)) hb3⟩; have BK1s := blk_below BK1r.out HB3.out; have e0 : w3.cell? ⟨g1, 0, none⟩ = some (.string a0_0) := (blk_cell BK1s 0).trans rfl; have e1 : w3.cell? ⟨g1, 1, none⟩ = some (.int .i64 a0_1) := (blk_cell BK1s 1).trans rfl; have HG : Aside0 (w2.heap.size ≤ g) := ⟨Nat.le_trans (below_size (w := w2) (by repeat (first | exact Below.refl _ _ | apply below_drew1 | apply pw_below_drewN | apply below_alloc))) hge⟩; have HR := Aside0.mk hrp; have H4 := Aside0.mk h4; have HN := Aside0.mk hne; clear hrp h4 hne hge hb3 BK1s)
      | (go_at_call 49; refine (mr_replace g cp w2.heap.size bk a0_0 _ HR.out H4.out HN.out HG.out HS.out).mono ?_; rintro e w4 ⟨rfl, hb4⟩; have HB4 : Aside0 (Below w2.heap.size w2 w4) := ⟨Below.trans (by repeat (first | exact HB3.out | apply below_drew1 | apply pw_below_drewN)) hb4⟩; have BK1t := blk_below BK1r.out HB4.out; have BK2t := Aside0.mk (blk_below BK2.out HB4.out); have e2 : w4.cell? ⟨g1, 1, none⟩ = some (.int .i64 a0_1) := (blk_cell BK1t 1).trans rfl; have k0 : w4.cell? ⟨g2, 0, none⟩ = some (.string ⟨#[]⟩) := (blk_cell BK2t.out 0).trans rfl; have k1 : w4.cell? ⟨g2, 1, none⟩ = some (.int .i64 0) := (blk_cell BK2t.out 1).trans rfl; have q0 : w4.frozen? ⟨g2, 0, none⟩ = false := blk_frozen BK2t.out 0; have q1 : w4.frozen? ⟨g2, 1, none⟩ = false := blk_frozen BK2t.out 1; clear hb4 BK1t))
    all_goals
      go_wp2
      refine bodyPost_ret (results_cell_row rfl _ _ g2 24 #[.string (mirS a0_0), .int .i64 a0_1] (0, 0) _ rfl (by (with_reducible repeat (first | apply lN_ | apply lD_ | apply lA_)); refine blk_put (cs := #[.string (mirS a0_0), .int .i64 0]) ?_ 1 _ rfl; (with_reducible repeat (first | apply lN_ | apply lD_ | apply lA_)); refine blk_put (cs := #[.string ⟨#[]⟩, .int .i64 0]) ?_ 0 _ rfl; (with_reducible repeat (first | apply lN_ | apply lD_ | apply lA_)); exact BK2t.out) Tryz.underlying24 rfl (by kernel_rfl)) rfl ?_
      exact ⟨rfl, by repeat (first | exact (HB2.out.trans (HB4.out.mono (below_size HB2.out))) | apply pw_below_drewN | apply below_drew1 | refine bS_ ?_ GE2.out)⟩
  · rw [if_neg hs] at h; cases h

def impl_Move_mirrored.e (k : Nat) : Refl.Ent G := ⟨30, [(.agg [.str, li])], .one (.agg [.str, li]), fun x => impl_Move_mirrored.f x.1 x.2⟩
theorem impl_Move_mirrored.ok (k : Nat) : Refl.EntOK Tryz.prog (impl_Move_mirrored.e k) := Refl.entOK_hand Tryz.func30 (by kernel_rfl) (fun x => by kernel_rfl) (fun y => ⟨by kernel_rfl, by kernel_rfl, by kernel_rfl, by kernel_rfl⟩) (fun x y h w => (impl_Move_mirrored.calls x.1 x.2 y.1 y.2 w h).mono fun e w' hh => ⟨hh.1, hh.2⟩)

/-! ### impl_MirrorMove: function 9 -/

def impl_MirrorMove.f (k : Nat) (a0_0 : ByteArray) (a0_1 : Int) : Option (ByteArray × Int × Bool) := (impl_IsMove.f k a0_0 a0_1).bind fun t224 => (if t224 = true then ((impl_Move_mirrored.f a0_0 a0_1).bind fun bt225 => (some (bt225.1, bt225.2, true))) else (some ((⟨#[]⟩ : ByteArray), 0, false)))

theorem impl_MirrorMove.mono : ∀ a0 a1 k, LeO (impl_MirrorMove.f k a0 a1) (impl_MirrorMove.f (k + 1) a0 a1) := by
  intro a0 a1 k
  unfold impl_MirrorMove.f
  repeat' first
      | (with_reducible exact impl_IsMove.mono _ _ _)
      | (with_reducible exact LeO.refl _)
      | (with_reducible exact LeO.none _)
      | (with_reducible refine LeO.ite ?_ ?_)
      | (with_reducible refine LeO.bind ?_ (fun _ => ?_))
      | exact impl_IsMove.mono _ _ _
      | exact LeO.none _
      | refine LeO.ite ?_ ?_
      | refine LeO.bind ?_ (fun _ => ?_)

def impl_MirrorMove.e (k : Nat) : Refl.Ent G := ⟨9, [(.agg [.str, li])], .tup [(.agg [.str, li]), (.c .bool)], fun x => impl_MirrorMove.f k x.1 x.2⟩
theorem impl_MirrorMove.ok (k : Nat) : Refl.EntOK Tryz.prog (impl_MirrorMove.e k) := Refl.ent_ok 1000000 k GC (fun k => [impl_IsMove.e k, impl_Move_mirrored.e k]) (fun k => ⟨impl_IsMove.ok k, impl_Move_mirrored.ok k, trivial⟩) Tryz.func9 (by kernel_rfl) [] (ps := []) (by kernel_rfl) trivial (fun x => by kernel_rfl)

/-! ### spec_mvMirror: function 31 -/

def spec_mvMirror.l0 : Nat → ByteArray → Int → ByteArray → Int → Option (ByteArray × Int)
  | 0, _, _, _, _ => none
  | k + 1, x3, x4, x228000, x228001 => if x4 < (x228000.size : Int) then (if 0 ≤ x4 then (if x4 < (x228000.size : Int) then (if (bt x228000 x4) = 108 then (if x3.size + 1 ≤ 9223372036854775807 then (spec_mvMirror.l0 k (x3 ++ (⟨#[114]⟩ : ByteArray)) (wrap64 (x4 + 1)) x228000 x228001) else (none)) else (if (bt x228000 x4) = 114 then (if x3.size + 1 ≤ 9223372036854775807 then (spec_mvMirror.l0 k (x3 ++ (⟨#[108]⟩ : ByteArray)) (wrap64 (x4 + 1)) x228000 x228001) else (none)) else (if 0 ≤ x4 then (if x4 ≤ (wrap64 (x4 + 1)) then (if (wrap64 (x4 + 1)) ≤ (x228000.size : Int) then (if x3.size + (x228000.extract (x4 : Int).toNat ((wrap64 (x4 + 1)) : Int).toNat).size ≤ 9223372036854775807 then (spec_mvMirror.l0 k (x3 ++ (x228000.extract (x4 : Int).toNat ((wrap64 (x4 + 1)) : Int).toNat)) (wrap64 (x4 + 1)) x228000 x228001) else (none)) else (none)) else (none)) else (none)))) else (none)) else (none)) else (some (x3, x228001))

def spec_mvMirror.f (k : Nat) (a0_0 : ByteArray) (a0_1 : Int) : Option (ByteArray × Int) := spec_mvMirror.l0 k (⟨#[]⟩ : ByteArray) 0 a0_0 a0_1

theorem spec_mvMirror.mono_l : ∀ k, (∀ y0 y1 y2 y3, LeO (spec_mvMirror.l0 k y0 y1 y2 y3) (spec_mvMirror.l0 (k + 1) y0 y1 y2 y3))
  | 0 => fun _ _ _ _ r h => by simp [spec_mvMirror.l0] at h
  | k + 1 => by
    have ih0 := spec_mvMirror.mono_l k
    · intro y0 y1 y2 y3
      unfold spec_mvMirror.l0
      repeat' first
      | (with_reducible exact ih0 _ _ _ _)
      | (with_reducible exact LeO.refl _)
      | (with_reducible exact LeO.none _)
      | (with_reducible refine LeO.ite ?_ ?_)
      | (with_reducible refine LeO.bind ?_ (fun _ => ?_))
      | exact ih0 _ _ _ _
      | exact LeO.none _
      | refine LeO.ite ?_ ?_
      | refine LeO.bind ?_ (fun _ => ?_)

theorem spec_mvMirror.mono : ∀ a0 a1 k, LeO (spec_mvMirror.f k a0 a1) (spec_mvMirror.f (k + 1) a0 a1) := by
  intro a0 a1 k
  have ih0 := spec_mvMirror.mono_l k
  unfold spec_mvMirror.f
  repeat' first
      | (with_reducible exact ih0 _ _ _ _)
      | (with_reducible exact LeO.refl _)
      | (with_reducible exact LeO.none _)
      | (with_reducible refine LeO.ite ?_ ?_)
      | (with_reducible refine LeO.bind ?_ (fun _ => ?_))
      | exact ih0 _ _ _ _
      | exact LeO.none _
      | refine LeO.ite ?_ ?_
      | refine LeO.bind ?_ (fun _ => ?_)

def spec_mvMirror.e (k : Nat) : Refl.Ent G := ⟨31, [(.agg [.str, li])], .one (.agg [.str, li]), fun x => spec_mvMirror.f k x.1 x.2⟩
def spec_mvMirror.pl0 : Refl.Pn G (Refl.PT G (spec_mvMirror.e 0).ol) := ⟨true, 0, ⟨[(3, .v (.c .str)), (4, .v (.c li)), (1, .box 1 0), (2, .box 2 0)], [(1, 24, gL2), (2, 24, gL3)]⟩, fun k x => spec_mvMirror.l0 k x.1 x.2.1 x.2.2.1 x.2.2.2⟩
theorem spec_mvMirror.ok (k : Nat) : Refl.EntOK Tryz.prog (spec_mvMirror.e k) := Refl.ent_ok 1000000 k GC (fun k => []) (fun k => trivial) Tryz.func31 (by kernel_rfl) [spec_mvMirror.pl0] (ps := [spec_mvMirror.pl0]) (by kernel_rfl) ⟨⟨fun x => by kernel_rfl, fun k x => by kernel_rfl⟩, trivial⟩ (fun x => by kernel_rfl)

/-! ### spec_MirrorMove: function 10 -/

def spec_MirrorMove.f (k : Nat) (a0_0 : ByteArray) (a0_1 : Int) : Option (ByteArray × Int × Bool) := (spec_mvGood.f k a0_0 a0_1).bind fun t231 => (if t231 = true then ((spec_mvMirror.f k a0_0 a0_1).bind fun bt232 => (some (bt232.1, bt232.2, true))) else (some ((⟨#[]⟩ : ByteArray), 0, false)))

theorem spec_MirrorMove.mono : ∀ a0 a1 k, LeO (spec_MirrorMove.f k a0 a1) (spec_MirrorMove.f (k + 1) a0 a1) := by
  intro a0 a1 k
  unfold spec_MirrorMove.f
  repeat' first
      | (with_reducible exact spec_mvGood.mono _ _ _)
      | (with_reducible exact spec_mvMirror.mono _ _ _)
      | (with_reducible exact LeO.refl _)
      | (with_reducible exact LeO.none _)
      | (with_reducible refine LeO.ite ?_ ?_)
      | (with_reducible refine LeO.bind ?_ (fun _ => ?_))
      | exact spec_mvGood.mono _ _ _
      | exact spec_mvMirror.mono _ _ _
      | exact LeO.none _
      | refine LeO.ite ?_ ?_
      | refine LeO.bind ?_ (fun _ => ?_)

def spec_MirrorMove.e (k : Nat) : Refl.Ent G := ⟨10, [(.agg [.str, li])], .tup [(.agg [.str, li]), (.c .bool)], fun x => spec_MirrorMove.f k x.1 x.2⟩
theorem spec_MirrorMove.ok (k : Nat) : Refl.EntOK Tryz.prog (spec_MirrorMove.e k) := Refl.ent_ok 1000000 k GC (fun k => [spec_mvGood.e k, spec_mvMirror.e k]) (fun k => ⟨spec_mvGood.ok k, spec_mvMirror.ok k, trivial⟩) Tryz.func10 (by kernel_rfl) [] (ps := []) (by kernel_rfl) trivial (fun x => by kernel_rfl)

/-! ### spec_DrawJoinMoves: function 11 -/

def spec_DrawJoinMoves.f (k : Nat) (l0 : List Int) : Option (ByteArray × Int × ByteArray × Int) := (spec_l1Cur_anyMove.f k l0 0 0).bind fun bt237 => ((spec_l1Cur_one.f bt237.2.2.1 bt237.2.2.2.1 bt237.2.2.2.2 3).bind fun bt243 => (if bt243.1 = true then (some (bt237.1, bt237.2.1, bt237.1, bt237.2.1)) else ((spec_l1Cur_anyMove.f k bt243.2.1 bt243.2.2.1 bt243.2.2.2).bind fun bt247 => (some (bt237.1, bt237.2.1, bt247.1, bt247.2.1)))))

theorem spec_DrawJoinMoves.mono : ∀ a0 k, LeO (spec_DrawJoinMoves.f k a0) (spec_DrawJoinMoves.f (k + 1) a0) := by
  intro a0 k
  unfold spec_DrawJoinMoves.f
  repeat' first
      | (with_reducible exact spec_l1Cur_anyMove.mono _ _ _ _)
      | (with_reducible exact LeO.refl _)
      | (with_reducible exact LeO.none _)
      | (with_reducible refine LeO.ite ?_ ?_)
      | (with_reducible refine LeO.bind ?_ (fun _ => ?_))
      | exact spec_l1Cur_anyMove.mono _ _ _ _
      | exact LeO.none _
      | refine LeO.ite ?_ ?_
      | refine LeO.bind ?_ (fun _ => ?_)

def spec_DrawJoinMoves.e (k : Nat) : Refl.Ent G := ⟨11, [(.c (.row 5 false))], .tup [(.agg [.str, li]), (.agg [.str, li])], fun x => spec_DrawJoinMoves.f k x⟩
theorem spec_DrawJoinMoves.ok (k : Nat) : Refl.EntOK Tryz.prog (spec_DrawJoinMoves.e k) := Refl.ent_ok 1000000 k GC (fun k => [spec_l1Cur_anyMove.e k, spec_l1Cur_one.e k]) (fun k => ⟨spec_l1Cur_anyMove.ok k, spec_l1Cur_one.ok k, trivial⟩) Tryz.func11 (by kernel_rfl) [] (ps := []) (by kernel_rfl) trivial (fun x => by kernel_rfl)

/-! ### impl_moveOf: function 34 -/

def impl_moveOf.l0 : Nat → ByteArray → Int → Option (ByteArray × Int × Bool)
  | 0, _, _ => none
  | k + 1, x0, x4 => if x4 ≥ 1 then (if x4 = 0 then (none) else (if 0 ≤ (wrap64 (Int.tdiv (x0.size : Int) x4)) then (if (wrap64 (Int.tdiv (x0.size : Int) x4)) ≤ (x0.size : Int) then (if ((x0.extract 0 ((wrap64 (Int.tdiv (x0.size : Int) x4)) : Int).toNat).size : Int) ≤ 6 then ((strings_Repeat.f (x0.extract 0 ((wrap64 (Int.tdiv (x0.size : Int) x4)) : Int).toNat) x4).bind fun t253 => (if t253.toList = x0.toList then (some (x0.extract 0 ((wrap64 (Int.tdiv (x0.size : Int) x4)) : Int).toNat, x4, true)) else (impl_moveOf.l0 k x0 (wrap64 (x4 - 1))))) else (impl_moveOf.l0 k x0 (wrap64 (x4 - 1)))) else (none)) else (none))) else (some ((⟨#[]⟩ : ByteArray), 0, false))

def impl_moveOf.f (k : Nat) (a0 : ByteArray) : Option (ByteArray × Int × Bool) := if a0.toList = ([] : List UInt8) then (some ((⟨#[]⟩ : ByteArray), 1, true)) else (impl_moveOf.l0 k a0 3)

theorem impl_moveOf.mono_l : ∀ k, (∀ y0 y1, LeO (impl_moveOf.l0 k y0 y1) (impl_moveOf.l0 (k + 1) y0 y1))
  | 0 => fun _ _ r h => by simp [impl_moveOf.l0] at h
  | k + 1 => by
    have ih0 := impl_moveOf.mono_l k
    · intro y0 y1
      unfold impl_moveOf.l0
      repeat' first
      | (with_reducible exact ih0 _ _)
      | (with_reducible exact LeO.refl _)
      | (with_reducible exact LeO.none _)
      | (with_reducible refine LeO.ite ?_ ?_)
      | (with_reducible refine LeO.bind ?_ (fun _ => ?_))
      | exact ih0 _ _
      | exact LeO.none _
      | refine LeO.ite ?_ ?_
      | refine LeO.bind ?_ (fun _ => ?_)

theorem impl_moveOf.mono : ∀ a0 k, LeO (impl_moveOf.f k a0) (impl_moveOf.f (k + 1) a0) := by
  intro a0 k
  have ih0 := impl_moveOf.mono_l k
  unfold impl_moveOf.f
  repeat' first
      | (with_reducible exact ih0 _ _)
      | (with_reducible exact LeO.refl _)
      | (with_reducible exact LeO.none _)
      | (with_reducible refine LeO.ite ?_ ?_)
      | (with_reducible refine LeO.bind ?_ (fun _ => ?_))
      | exact ih0 _ _
      | exact LeO.none _
      | refine LeO.ite ?_ ?_
      | refine LeO.bind ?_ (fun _ => ?_)

def impl_moveOf.e (k : Nat) : Refl.Ent G := ⟨34, [(.c .str)], .tup [(.agg [.str, li]), (.c .bool)], fun x => impl_moveOf.f k x⟩
def impl_moveOf.pl0 : Refl.Pn G (Refl.PT G (impl_moveOf.e 0).ol) := ⟨true, 0, ⟨[(0, .v (.c .str)), (4, .v (.c li)), (2, .box 2 0), (3, .k (Value.bool false))], [(2, 24, gL3)]⟩, fun k x => impl_moveOf.l0 k x.1 x.2⟩
theorem impl_moveOf.ok (k : Nat) : Refl.EntOK Tryz.prog (impl_moveOf.e k) := Refl.ent_ok 1000000 k GC (fun k => [strings_Repeat.e k]) (fun k => ⟨strings_Repeat.ok k, trivial⟩) Tryz.func34 (by kernel_rfl) [impl_moveOf.pl0] (ps := [impl_moveOf.pl0]) (by kernel_rfl) ⟨⟨fun x => by kernel_rfl, fun k x => by kernel_rfl⟩, trivial⟩ (fun x => by kernel_rfl)

/-! ### impl_JoinMoves: function 12 -/

def impl_JoinMoves.j0 : Nat → Bool → ByteArray → Int → ByteArray → Int → Option (ByteArray × Int × Bool)
  | 0, _, _, _, _, _ => none
  | k + 1, x13, x255000, x255001, x256000, x256001 => if x13 = true then (some ((⟨#[]⟩ : ByteArray), 0, false)) else ((impl_Move_all.f x255000 x255001).bind fun t259 => ((impl_Move_all.f x256000 x256001).bind fun t260 => (if t259.size + t260.size ≤ 9223372036854775807 then ((impl_moveOf.f k (t259 ++ t260)).bind fun bt261 => (some (bt261.1, bt261.2.1, bt261.2.2))) else (none))))

def impl_JoinMoves.f (k : Nat) (a0_0 : ByteArray) (a0_1 : Int) (a1_0 : ByteArray) (a1_1 : Int) : Option (ByteArray × Int × Bool) := (impl_IsMove.f k a0_0 a0_1).bind fun t257 => (if t257 = true then ((impl_IsMove.f k a1_0 a1_1).bind fun t258 => (impl_JoinMoves.j0 k (!t258) a0_0 a0_1 a1_0 a1_1)) else (impl_JoinMoves.j0 k true a0_0 a0_1 a1_0 a1_1))

theorem impl_JoinMoves.mono_l : ∀ k, (∀ y0 y1 y2 y3 y4, LeO (impl_JoinMoves.j0 k y0 y1 y2 y3 y4) (impl_JoinMoves.j0 (k + 1) y0 y1 y2 y3 y4))
  | 0 => fun _ _ _ _ _ r h => by simp [impl_JoinMoves.j0] at h
  | k + 1 => by
    have ih0 := impl_JoinMoves.mono_l k
    · intro y0 y1 y2 y3 y4
      unfold impl_JoinMoves.j0
      repeat' first
      | (with_reducible exact ih0 _ _ _ _ _)
      | (with_reducible exact impl_IsMove.mono _ _ _)
      | (with_reducible exact impl_moveOf.mono _ _)
      | (with_reducible exact LeO.refl _)
      | (with_reducible exact LeO.none _)
      | (with_reducible refine LeO.ite ?_ ?_)
      | (with_reducible refine LeO.bind ?_ (fun _ => ?_))
      | exact ih0 _ _ _ _ _
      | exact impl_IsMove.mono _ _ _
      | exact impl_moveOf.mono _ _
      | exact LeO.none _
      | refine LeO.ite ?_ ?_
      | refine LeO.bind ?_ (fun _ => ?_)

theorem impl_JoinMoves.mono : ∀ a0 a1 a2 a3 k, LeO (impl_JoinMoves.f k a0 a1 a2 a3) (impl_JoinMoves.f (k + 1) a0 a1 a2 a3) := by
  intro a0 a1 a2 a3 k
  have ih0 := impl_JoinMoves.mono_l k
  unfold impl_JoinMoves.f
  repeat' first
      | (with_reducible exact ih0 _ _ _ _ _)
      | (with_reducible exact impl_IsMove.mono _ _ _)
      | (with_reducible exact impl_moveOf.mono _ _)
      | (with_reducible exact LeO.refl _)
      | (with_reducible exact LeO.none _)
      | (with_reducible refine LeO.ite ?_ ?_)
      | (with_reducible refine LeO.bind ?_ (fun _ => ?_))
      | exact ih0 _ _ _ _ _
      | exact impl_IsMove.mono _ _ _
      | exact impl_moveOf.mono _ _
      | exact LeO.none _
      | refine LeO.ite ?_ ?_
      | refine LeO.bind ?_ (fun _ => ?_)

def impl_JoinMoves.e (k : Nat) : Refl.Ent G := ⟨12, [(.agg [.str, li]), (.agg [.str, li])], .tup [(.agg [.str, li]), (.c .bool)], fun x => impl_JoinMoves.f k x.1 x.2.1 x.2.2.1 x.2.2.2⟩
def impl_JoinMoves.pj0 : Refl.Pn G (Refl.PT G (impl_JoinMoves.e 0).ol) := ⟨false, 1000001, ⟨[(13, .v (.c .bool)), (2, .box 2 0), (3, .box 3 0), (4, .box 4 0), (5, .k (Value.bool false))], [(2, 24, gL2), (3, 24, gL2), (4, 24, gL3)]⟩, fun k x => impl_JoinMoves.j0 k x.1 x.2.1 x.2.2.1 x.2.2.2.1 x.2.2.2.2⟩
theorem impl_JoinMoves.ok (k : Nat) : Refl.EntOK Tryz.prog (impl_JoinMoves.e k) := Refl.ent_ok 1000000 k GC (fun k => [impl_IsMove.e k, impl_Move_all.e k, impl_moveOf.e k]) (fun k => ⟨impl_IsMove.ok k, impl_Move_all.ok k, impl_moveOf.ok k, trivial⟩) Tryz.func12 (by kernel_rfl) [impl_JoinMoves.pj0] (ps := [impl_JoinMoves.pj0]) (by kernel_rfl) ⟨⟨fun x => by kernel_rfl, fun k x => by kernel_rfl⟩, trivial⟩ (fun x => by kernel_rfl)

/-! ### spec_mvOf: function 35 -/

mutual
def spec_mvOf.l0 : Nat → ByteArray → Int → Option (ByteArray × Int × Bool)
  | 0, _, _ => none
  | k + 1, x0, x4 => if x4 ≤ 6 then (spec_mvOf.j1 k x0 x4 (decide (x4 ≤ (x0.size : Int)))) else (spec_mvOf.j1 k x0 x4 false)
def spec_mvOf.j1 : Nat → ByteArray → Int → Bool → Option (ByteArray × Int × Bool)
  | 0, _, _, _ => none
  | k + 1, x0, x4, x16 => if x16 = true then (spec_mvOf.l1 k x0 x4 1) else (some ((⟨#[]⟩ : ByteArray), 0, false))
def spec_mvOf.l1 : Nat → ByteArray → Int → Int → Option (ByteArray × Int × Bool)
  | 0, _, _, _ => none
  | k + 1, x0, x4, x5 => if x5 ≤ 3 then (if 0 ≤ x4 then (if x4 ≤ (x0.size : Int) then ((spec_mvTimes.f k (x0.extract 0 (x4 : Int).toNat) x5).bind fun t265 => (if t265.toList = x0.toList then (if 0 ≤ x4 then (if x4 ≤ (x0.size : Int) then (some (x0.extract 0 (x4 : Int).toNat, x5, true)) else (none)) else (none)) else (spec_mvOf.l1 k x0 x4 (wrap64 (x5 + 1))))) else (none)) else (none)) else (spec_mvOf.l0 k x0 (wrap64 (x4 + 1)))
end

def spec_mvOf.f (k : Nat) (a0 : ByteArray) : Option (ByteArray × Int × Bool) := if a0.toList = ([] : List UInt8) then (some ((⟨#[]⟩ : ByteArray), 1, true)) else (spec_mvOf.l0 k a0 1)

theorem spec_mvOf.mono_l : ∀ k, (∀ y0 y1, LeO (spec_mvOf.l0 k y0 y1) (spec_mvOf.l0 (k + 1) y0 y1)) ∧ (∀ y0 y1 y2, LeO (spec_mvOf.j1 k y0 y1 y2) (spec_mvOf.j1 (k + 1) y0 y1 y2)) ∧ (∀ y0 y1 y2, LeO (spec_mvOf.l1 k y0 y1 y2) (spec_mvOf.l1 (k + 1) y0 y1 y2))
  | 0 => ⟨fun _ _ r h => by simp [spec_mvOf.l0] at h, fun _ _ _ r h => by simp [spec_mvOf.j1] at h, fun _ _ _ r h => by simp [spec_mvOf.l1] at h⟩
  | k + 1 => by
    obtain ⟨ih0, ih1, ih2⟩ := spec_mvOf.mono_l k
    refine ⟨?_, ?_, ?_⟩
    · intro y0 y1
      unfold spec_mvOf.l0
      repeat' first
      | (with_reducible exact ih0 _ _)
      | (with_reducible exact ih1 _ _ _)
      | (with_reducible exact ih2 _ _ _)
      | (with_reducible exact spec_mvTimes.mono _ _ _)
      | (with_reducible exact LeO.refl _)
      | (with_reducible exact LeO.none _)
      | (with_reducible refine LeO.ite ?_ ?_)
      | (with_reducible refine LeO.bind ?_ (fun _ => ?_))
      | exact ih0 _ _
      | exact ih1 _ _ _
      | exact ih2 _ _ _
      | exact spec_mvTimes.mono _ _ _
      | exact LeO.none _
      | refine LeO.ite ?_ ?_
      | refine LeO.bind ?_ (fun _ => ?_)
    · intro y0 y1 y2
      unfold spec_mvOf.j1
      repeat' first
      | (with_reducible exact ih0 _ _)
      | (with_reducible exact ih1 _ _ _)
      | (with_reducible exact ih2 _ _ _)
      | (with_reducible exact spec_mvTimes.mono _ _ _)
      | (with_reducible exact LeO.refl _)
      | (with_reducible exact LeO.none _)
      | (with_reducible refine LeO.ite ?_ ?_)
      | (with_reducible refine LeO.bind ?_ (fun _ => ?_))
      | exact ih0 _ _
      | exact ih1 _ _ _
      | exact ih2 _ _ _
      | exact spec_mvTimes.mono _ _ _
      | exact LeO.none _
      | refine LeO.ite ?_ ?_
      | refine LeO.bind ?_ (fun _ => ?_)
    · intro y0 y1 y2
      unfold spec_mvOf.l1
      repeat' first
      | (with_reducible exact ih0 _ _)
      | (with_reducible exact ih1 _ _ _)
      | (with_reducible exact ih2 _ _ _)
      | (with_reducible exact spec_mvTimes.mono _ _ _)
      | (with_reducible exact LeO.refl _)
      | (with_reducible exact LeO.none _)
      | (with_reducible refine LeO.ite ?_ ?_)
      | (with_reducible refine LeO.bind ?_ (fun _ => ?_))
      | exact ih0 _ _
      | exact ih1 _ _ _
      | exact ih2 _ _ _
      | exact spec_mvTimes.mono _ _ _
      | exact LeO.none _
      | refine LeO.ite ?_ ?_
      | refine LeO.bind ?_ (fun _ => ?_)

theorem spec_mvOf.mono : ∀ a0 k, LeO (spec_mvOf.f k a0) (spec_mvOf.f (k + 1) a0) := by
  intro a0 k
  obtain ⟨ih0, ih1, ih2⟩ := spec_mvOf.mono_l k
  unfold spec_mvOf.f
  repeat' first
      | (with_reducible exact ih0 _ _)
      | (with_reducible exact ih1 _ _ _)
      | (with_reducible exact ih2 _ _ _)
      | (with_reducible exact spec_mvTimes.mono _ _ _)
      | (with_reducible exact LeO.refl _)
      | (with_reducible exact LeO.none _)
      | (with_reducible refine LeO.ite ?_ ?_)
      | (with_reducible refine LeO.bind ?_ (fun _ => ?_))
      | exact ih0 _ _
      | exact ih1 _ _ _
      | exact ih2 _ _ _
      | exact spec_mvTimes.mono _ _ _
      | exact LeO.none _
      | refine LeO.ite ?_ ?_
      | refine LeO.bind ?_ (fun _ => ?_)

def spec_mvOf.e (k : Nat) : Refl.Ent G := ⟨35, [(.c .str)], .tup [(.agg [.str, li]), (.c .bool)], fun x => spec_mvOf.f k x⟩
def spec_mvOf.pl0 : Refl.Pn G (Refl.PT G (spec_mvOf.e 0).ol) := ⟨true, 0, ⟨[(0, .v (.c .str)), (4, .v (.c li)), (2, .box 2 0), (3, .k (Value.bool false))], [(2, 24, gL3)]⟩, fun k x => spec_mvOf.l0 k x.1 x.2⟩
def spec_mvOf.pj1 : Refl.Pn G (Refl.PT G (spec_mvOf.e 0).ol) := ⟨false, 1000004, ⟨[(0, .v (.c .str)), (4, .v (.c li)), (16, .v (.c .bool)), (2, .box 2 0), (3, .k (Value.bool false))], [(2, 24, gL3)]⟩, fun k x => spec_mvOf.j1 k x.1 x.2.1 x.2.2⟩
def spec_mvOf.pl1 : Refl.Pn G (Refl.PT G (spec_mvOf.e 0).ol) := ⟨true, 2, ⟨[(0, .v (.c .str)), (4, .v (.c li)), (5, .v (.c li)), (2, .box 2 0), (3, .k (Value.bool false))], [(2, 24, gL3)]⟩, fun k x => spec_mvOf.l1 k x.1 x.2.1 x.2.2⟩
theorem spec_mvOf.ok (k : Nat) : Refl.EntOK Tryz.prog (spec_mvOf.e k) := Refl.ent_ok 1000000 k GC (fun k => [spec_mvTimes.e k]) (fun k => ⟨spec_mvTimes.ok k, trivial⟩) Tryz.func35 (by kernel_rfl) [spec_mvOf.pl0, spec_mvOf.pj1, spec_mvOf.pl1] (ps := [spec_mvOf.pl0, spec_mvOf.pj1, spec_mvOf.pl1]) (by kernel_rfl) ⟨⟨fun x => by kernel_rfl, fun k x => by kernel_rfl⟩, ⟨fun x => by kernel_rfl, fun k x => by kernel_rfl⟩, ⟨fun x => by kernel_rfl, fun k x => by kernel_rfl⟩, trivial⟩ (fun x => by kernel_rfl)

/-! ### spec_JoinMoves: function 13 -/

def spec_JoinMoves.j0 : Nat → Bool → ByteArray → Int → ByteArray → Int → Option (ByteArray × Int × Bool)
  | 0, _, _, _, _, _ => none
  | k + 1, x13, x267000, x267001, x268000, x268001 => if x13 = true then (some ((⟨#[]⟩ : ByteArray), 0, false)) else ((spec_mvAll.f k x267000 x267001).bind fun t271 => ((spec_mvAll.f k x268000 x268001).bind fun t272 => (if t271.size + t272.size ≤ 9223372036854775807 then ((spec_mvOf.f k (t271 ++ t272)).bind fun bt273 => (some (bt273.1, bt273.2.1, bt273.2.2))) else (none))))

def spec_JoinMoves.f (k : Nat) (a0_0 : ByteArray) (a0_1 : Int) (a1_0 : ByteArray) (a1_1 : Int) : Option (ByteArray × Int × Bool) := (spec_mvGood.f k a0_0 a0_1).bind fun t269 => (if t269 = true then ((spec_mvGood.f k a1_0 a1_1).bind fun t270 => (spec_JoinMoves.j0 k (!t270) a0_0 a0_1 a1_0 a1_1)) else (spec_JoinMoves.j0 k true a0_0 a0_1 a1_0 a1_1))

theorem spec_JoinMoves.mono_l : ∀ k, (∀ y0 y1 y2 y3 y4, LeO (spec_JoinMoves.j0 k y0 y1 y2 y3 y4) (spec_JoinMoves.j0 (k + 1) y0 y1 y2 y3 y4))
  | 0 => fun _ _ _ _ _ r h => by simp [spec_JoinMoves.j0] at h
  | k + 1 => by
    have ih0 := spec_JoinMoves.mono_l k
    · intro y0 y1 y2 y3 y4
      unfold spec_JoinMoves.j0
      repeat' first
      | (with_reducible exact ih0 _ _ _ _ _)
      | (with_reducible exact spec_mvAll.mono _ _ _)
      | (with_reducible exact spec_mvGood.mono _ _ _)
      | (with_reducible exact spec_mvOf.mono _ _)
      | (with_reducible exact LeO.refl _)
      | (with_reducible exact LeO.none _)
      | (with_reducible refine LeO.ite ?_ ?_)
      | (with_reducible refine LeO.bind ?_ (fun _ => ?_))
      | exact ih0 _ _ _ _ _
      | exact spec_mvAll.mono _ _ _
      | exact spec_mvGood.mono _ _ _
      | exact spec_mvOf.mono _ _
      | exact LeO.none _
      | refine LeO.ite ?_ ?_
      | refine LeO.bind ?_ (fun _ => ?_)

theorem spec_JoinMoves.mono : ∀ a0 a1 a2 a3 k, LeO (spec_JoinMoves.f k a0 a1 a2 a3) (spec_JoinMoves.f (k + 1) a0 a1 a2 a3) := by
  intro a0 a1 a2 a3 k
  have ih0 := spec_JoinMoves.mono_l k
  unfold spec_JoinMoves.f
  repeat' first
      | (with_reducible exact ih0 _ _ _ _ _)
      | (with_reducible exact spec_mvAll.mono _ _ _)
      | (with_reducible exact spec_mvGood.mono _ _ _)
      | (with_reducible exact spec_mvOf.mono _ _)
      | (with_reducible exact LeO.refl _)
      | (with_reducible exact LeO.none _)
      | (with_reducible refine LeO.ite ?_ ?_)
      | (with_reducible refine LeO.bind ?_ (fun _ => ?_))
      | exact ih0 _ _ _ _ _
      | exact spec_mvAll.mono _ _ _
      | exact spec_mvGood.mono _ _ _
      | exact spec_mvOf.mono _ _
      | exact LeO.none _
      | refine LeO.ite ?_ ?_
      | refine LeO.bind ?_ (fun _ => ?_)

def spec_JoinMoves.e (k : Nat) : Refl.Ent G := ⟨13, [(.agg [.str, li]), (.agg [.str, li])], .tup [(.agg [.str, li]), (.c .bool)], fun x => spec_JoinMoves.f k x.1 x.2.1 x.2.2.1 x.2.2.2⟩
def spec_JoinMoves.pj0 : Refl.Pn G (Refl.PT G (spec_JoinMoves.e 0).ol) := ⟨false, 1000001, ⟨[(13, .v (.c .bool)), (2, .box 2 0), (3, .box 3 0), (4, .box 4 0), (5, .k (Value.bool false))], [(2, 24, gL2), (3, 24, gL2), (4, 24, gL3)]⟩, fun k x => spec_JoinMoves.j0 k x.1 x.2.1 x.2.2.1 x.2.2.2.1 x.2.2.2.2⟩
theorem spec_JoinMoves.ok (k : Nat) : Refl.EntOK Tryz.prog (spec_JoinMoves.e k) := Refl.ent_ok 1000000 k GC (fun k => [spec_mvGood.e k, spec_mvAll.e k, spec_mvOf.e k]) (fun k => ⟨spec_mvGood.ok k, spec_mvAll.ok k, spec_mvOf.ok k, trivial⟩) Tryz.func13 (by kernel_rfl) [spec_JoinMoves.pj0] (ps := [spec_JoinMoves.pj0]) (by kernel_rfl) ⟨⟨fun x => by kernel_rfl, fun k x => by kernel_rfl⟩, trivial⟩ (fun x => by kernel_rfl)

/-! ### spec_DrawLongestStraight: function 14 -/

def spec_DrawLongestStraight.f (k : Nat) (l0 : List Int) : Option (ByteArray × Int) := (spec_DrawIsMove.f k l0).bind fun bt277 => (some (bt277.1, bt277.2))

theorem spec_DrawLongestStraight.mono : ∀ a0 k, LeO (spec_DrawLongestStraight.f k a0) (spec_DrawLongestStraight.f (k + 1) a0) := by
  intro a0 k
  unfold spec_DrawLongestStraight.f
  repeat' first
      | (with_reducible exact spec_DrawIsMove.mono _ _)
      | (with_reducible exact LeO.refl _)
      | (with_reducible exact LeO.none _)
      | (with_reducible refine LeO.ite ?_ ?_)
      | (with_reducible refine LeO.bind ?_ (fun _ => ?_))
      | exact spec_DrawIsMove.mono _ _
      | exact LeO.none _
      | refine LeO.ite ?_ ?_
      | refine LeO.bind ?_ (fun _ => ?_)

def spec_DrawLongestStraight.e (k : Nat) : Refl.Ent G := ⟨14, [(.c (.row 5 false))], .one (.agg [.str, li]), fun x => spec_DrawLongestStraight.f k x⟩
theorem spec_DrawLongestStraight.ok (k : Nat) : Refl.EntOK Tryz.prog (spec_DrawLongestStraight.e k) := Refl.ent_ok 1000000 k GC (fun k => [spec_DrawIsMove.e k]) (fun k => ⟨spec_DrawIsMove.ok k, trivial⟩) Tryz.func14 (by kernel_rfl) [] (ps := []) (by kernel_rfl) trivial (fun x => by kernel_rfl)

/-! ### impl_LongestStraight: function 15 -/

mutual
def impl_LongestStraight.j0 : Nat → Bool → ByteArray → Int → Option (ByteArray × Int × Bool)
  | 0, _, _, _ => none
  | k + 1, x17, x280000, x280001 => if x17 = true then (some ((⟨#[]⟩ : ByteArray), 0, false)) else ((impl_Move_all.f x280000 x280001).bind fun t281 => (impl_LongestStraight.l0 k t281 0 0 (t281.size : Int) 0))
def impl_LongestStraight.l0 : Nat → ByteArray → Int → Int → Int → Int → Option (ByteArray × Int × Bool)
  | 0, _, _, _, _, _ => none
  | k + 1, x5, x6, x7, x21, x22 => if x22 < x21 then (impl_LongestStraight.l1 k x5 x6 x7 x22 1 x21 x22) else (if 0 ≤ x6 then (if x6 ≤ (wrap64 (x6 + 1)) then (if (wrap64 (x6 + 1)) ≤ (x5.size : Int) then (some (x5.extract (x6 : Int).toNat ((wrap64 (x6 + 1)) : Int).toNat, x7, true)) else (none)) else (none)) else (none))
def impl_LongestStraight.l1 : Nat → ByteArray → Int → Int → Int → Int → Int → Int → Option (ByteArray × Int × Bool)
  | 0, _, _, _, _, _, _, _ => none
  | k + 1, x5, x6, x7, x8, x9, x21, x22 => if (wrap64 (x8 + x9)) < (x5.size : Int) then (if 0 ≤ (wrap64 (x8 + x9)) then (if (wrap64 (x8 + x9)) < (x5.size : Int) then (if 0 ≤ x8 then (if x8 < (x5.size : Int) then (if (bt x5 (wrap64 (x8 + x9))) = (bt x5 x8) then (impl_LongestStraight.l1 k x5 x6 x7 x8 (wrap64 (x9 + 1)) x21 x22) else (if x9 > x7 then (impl_LongestStraight.l0 k x5 x8 x9 x21 (wrap64 (x22 + 1))) else (impl_LongestStraight.l0 k x5 x6 x7 x21 (wrap64 (x22 + 1))))) else (none)) else (none)) else (none)) else (none)) else (if x9 > x7 then (impl_LongestStraight.l0 k x5 x8 x9 x21 (wrap64 (x22 + 1))) else (impl_LongestStraight.l0 k x5 x6 x7 x21 (wrap64 (x22 + 1))))
end

def impl_LongestStraight.f (k : Nat) (a0_0 : ByteArray) (a0_1 : Int) : Option (ByteArray × Int × Bool) := (impl_IsMove.f k a0_0 a0_1).bind fun t280 => (if t280 = true then (impl_LongestStraight.j0 k (a0_0.toList == ([] : List UInt8)) a0_0 a0_1) else (impl_LongestStraight.j0 k true a0_0 a0_1))

theorem impl_LongestStraight.mono_l : ∀ k, (∀ y0 y1 y2, LeO (impl_LongestStraight.j0 k y0 y1 y2) (impl_LongestStraight.j0 (k + 1) y0 y1 y2)) ∧ (∀ y0 y1 y2 y3 y4, LeO (impl_LongestStraight.l0 k y0 y1 y2 y3 y4) (impl_LongestStraight.l0 (k + 1) y0 y1 y2 y3 y4)) ∧ (∀ y0 y1 y2 y3 y4 y5 y6, LeO (impl_LongestStraight.l1 k y0 y1 y2 y3 y4 y5 y6) (impl_LongestStraight.l1 (k + 1) y0 y1 y2 y3 y4 y5 y6))
  | 0 => ⟨fun _ _ _ r h => by simp [impl_LongestStraight.j0] at h, fun _ _ _ _ _ r h => by simp [impl_LongestStraight.l0] at h, fun _ _ _ _ _ _ _ r h => by simp [impl_LongestStraight.l1] at h⟩
  | k + 1 => by
    obtain ⟨ih0, ih1, ih2⟩ := impl_LongestStraight.mono_l k
    refine ⟨?_, ?_, ?_⟩
    · intro y0 y1 y2
      unfold impl_LongestStraight.j0
      repeat' first
      | (with_reducible exact ih0 _ _ _)
      | (with_reducible exact ih1 _ _ _ _ _)
      | (with_reducible exact ih2 _ _ _ _ _ _ _)
      | (with_reducible exact impl_IsMove.mono _ _ _)
      | (with_reducible exact LeO.refl _)
      | (with_reducible exact LeO.none _)
      | (with_reducible refine LeO.ite ?_ ?_)
      | (with_reducible refine LeO.bind ?_ (fun _ => ?_))
      | exact ih0 _ _ _
      | exact ih1 _ _ _ _ _
      | exact ih2 _ _ _ _ _ _ _
      | exact impl_IsMove.mono _ _ _
      | exact LeO.none _
      | refine LeO.ite ?_ ?_
      | refine LeO.bind ?_ (fun _ => ?_)
    · intro y0 y1 y2 y3 y4
      unfold impl_LongestStraight.l0
      repeat' first
      | (with_reducible exact ih0 _ _ _)
      | (with_reducible exact ih1 _ _ _ _ _)
      | (with_reducible exact ih2 _ _ _ _ _ _ _)
      | (with_reducible exact impl_IsMove.mono _ _ _)
      | (with_reducible exact LeO.refl _)
      | (with_reducible exact LeO.none _)
      | (with_reducible refine LeO.ite ?_ ?_)
      | (with_reducible refine LeO.bind ?_ (fun _ => ?_))
      | exact ih0 _ _ _
      | exact ih1 _ _ _ _ _
      | exact ih2 _ _ _ _ _ _ _
      | exact impl_IsMove.mono _ _ _
      | exact LeO.none _
      | refine LeO.ite ?_ ?_
      | refine LeO.bind ?_ (fun _ => ?_)
    · intro y0 y1 y2 y3 y4 y5 y6
      unfold impl_LongestStraight.l1
      repeat' first
      | (with_reducible exact ih0 _ _ _)
      | (with_reducible exact ih1 _ _ _ _ _)
      | (with_reducible exact ih2 _ _ _ _ _ _ _)
      | (with_reducible exact impl_IsMove.mono _ _ _)
      | (with_reducible exact LeO.refl _)
      | (with_reducible exact LeO.none _)
      | (with_reducible refine LeO.ite ?_ ?_)
      | (with_reducible refine LeO.bind ?_ (fun _ => ?_))
      | exact ih0 _ _ _
      | exact ih1 _ _ _ _ _
      | exact ih2 _ _ _ _ _ _ _
      | exact impl_IsMove.mono _ _ _
      | exact LeO.none _
      | refine LeO.ite ?_ ?_
      | refine LeO.bind ?_ (fun _ => ?_)

theorem impl_LongestStraight.mono : ∀ a0 a1 k, LeO (impl_LongestStraight.f k a0 a1) (impl_LongestStraight.f (k + 1) a0 a1) := by
  intro a0 a1 k
  obtain ⟨ih0, ih1, ih2⟩ := impl_LongestStraight.mono_l k
  unfold impl_LongestStraight.f
  repeat' first
      | (with_reducible exact ih0 _ _ _)
      | (with_reducible exact ih1 _ _ _ _ _)
      | (with_reducible exact ih2 _ _ _ _ _ _ _)
      | (with_reducible exact impl_IsMove.mono _ _ _)
      | (with_reducible exact LeO.refl _)
      | (with_reducible exact LeO.none _)
      | (with_reducible refine LeO.ite ?_ ?_)
      | (with_reducible refine LeO.bind ?_ (fun _ => ?_))
      | exact ih0 _ _ _
      | exact ih1 _ _ _ _ _
      | exact ih2 _ _ _ _ _ _ _
      | exact impl_IsMove.mono _ _ _
      | exact LeO.none _
      | refine LeO.ite ?_ ?_
      | refine LeO.bind ?_ (fun _ => ?_)

def impl_LongestStraight.e (k : Nat) : Refl.Ent G := ⟨15, [(.agg [.str, li])], .tup [(.c .str), (.c li), (.c .bool)], fun x => impl_LongestStraight.f k x.1 x.2⟩
def impl_LongestStraight.pj0 : Refl.Pn G (Refl.PT G (impl_LongestStraight.e 0).ol) := ⟨false, 1000001, ⟨[(17, .v (.c .bool)), (1, .box 1 0), (3, .k (Value.int IntKind.i64 0)), (4, .k (Value.bool false))], [(1, 24, gL2)]⟩, fun k x => impl_LongestStraight.j0 k x.1 x.2.1 x.2.2⟩
def impl_LongestStraight.pl0 : Refl.Pn G (Refl.PT G (impl_LongestStraight.e 0).ol) := ⟨true, 0, ⟨[(5, .v (.c .str)), (6, .v (.c li)), (7, .v (.c li)), (21, .v (.c li)), (22, .v (.c li)), (3, .k (Value.int IntKind.i64 0)), (4, .k (Value.bool false))], []⟩, fun k x => impl_LongestStraight.l0 k x.1 x.2.1 x.2.2.1 x.2.2.2.1 x.2.2.2.2⟩
def impl_LongestStraight.pl1 : Refl.Pn G (Refl.PT G (impl_LongestStraight.e 0).ol) := ⟨true, 2, ⟨[(5, .v (.c .str)), (6, .v (.c li)), (7, .v (.c li)), (8, .v (.c li)), (9, .v (.c li)), (21, .v (.c li)), (22, .v (.c li)), (3, .k (Value.int IntKind.i64 0)), (4, .k (Value.bool false))], []⟩, fun k x => impl_LongestStraight.l1 k x.1 x.2.1 x.2.2.1 x.2.2.2.1 x.2.2.2.2.1 x.2.2.2.2.2.1 x.2.2.2.2.2.2⟩
theorem impl_LongestStraight.ok (k : Nat) : Refl.EntOK Tryz.prog (impl_LongestStraight.e k) := Refl.ent_ok 1000000 k GC (fun k => [impl_IsMove.e k, impl_Move_all.e k]) (fun k => ⟨impl_IsMove.ok k, impl_Move_all.ok k, trivial⟩) Tryz.func15 (by kernel_rfl) [impl_LongestStraight.pj0, impl_LongestStraight.pl0, impl_LongestStraight.pl1] (ps := [impl_LongestStraight.pj0, impl_LongestStraight.pl0, impl_LongestStraight.pl1]) (by kernel_rfl) ⟨⟨fun x => by kernel_rfl, fun k x => by kernel_rfl⟩, ⟨fun x => by kernel_rfl, fun k x => by kernel_rfl⟩, ⟨fun x => by kernel_rfl, fun k x => by kernel_rfl⟩, trivial⟩ (fun x => by kernel_rfl)

/-! ### spec_LongestStraight: function 16 -/

mutual
def spec_LongestStraight.j0 : Nat → Bool → ByteArray → Int → Option (ByteArray × Int × Bool)
  | 0, _, _, _ => none
  | k + 1, x17, x283000, x283001 => if x17 = true then (some ((⟨#[]⟩ : ByteArray), 0, false)) else ((spec_mvAll.f k x283000 x283001).bind fun t284 => (spec_LongestStraight.l0 k t284 (⟨#[]⟩ : ByteArray) 0 0 0))
def spec_LongestStraight.l0 : Nat → ByteArray → ByteArray → Int → Int → Int → Option (ByteArray × Int × Bool)
  | 0, _, _, _, _, _ => none
  | k + 1, x5, x6, x7, x8, x9 => if x9 < (x5.size : Int) then (if x9 > 0 then (if 0 ≤ x9 then (if x9 < (x5.size : Int) then (if 0 ≤ (wrap64 (x9 - 1)) then (if (wrap64 (x9 - 1)) < (x5.size : Int) then (spec_LongestStraight.j2 k x5 x6 x7 (wrap64 (x8 + 1)) x9 ((bt x5 x9) != (bt x5 (wrap64 (x9 - 1))))) else (none)) else (none)) else (none)) else (none)) else (spec_LongestStraight.j2 k x5 x6 x7 (wrap64 (x8 + 1)) x9 false)) else (some (x6, x7, true))
def spec_LongestStraight.j2 : Nat → ByteArray → ByteArray → Int → Int → Int → Bool → Option (ByteArray × Int × Bool)
  | 0, _, _, _, _, _, _ => none
  | k + 1, x5, x6, x7, x8, x9, x39 => if x39 = true then (if 1 > x7 then (if 0 ≤ x9 then (if x9 ≤ (wrap64 (x9 + 1)) then (if (wrap64 (x9 + 1)) ≤ (x5.size : Int) then (spec_LongestStraight.l0 k x5 (x5.extract (x9 : Int).toNat ((wrap64 (x9 + 1)) : Int).toNat) 1 1 (wrap64 (x9 + 1))) else (none)) else (none)) else (none)) else (spec_LongestStraight.l0 k x5 x6 x7 1 (wrap64 (x9 + 1)))) else (if x8 > x7 then (if 0 ≤ x9 then (if x9 ≤ (wrap64 (x9 + 1)) then (if (wrap64 (x9 + 1)) ≤ (x5.size : Int) then (spec_LongestStraight.l0 k x5 (x5.extract (x9 : Int).toNat ((wrap64 (x9 + 1)) : Int).toNat) x8 x8 (wrap64 (x9 + 1))) else (none)) else (none)) else (none)) else (spec_LongestStraight.l0 k x5 x6 x7 x8 (wrap64 (x9 + 1))))
end

def spec_LongestStraight.f (k : Nat) (a0_0 : ByteArray) (a0_1 : Int) : Option (ByteArray × Int × Bool) := (spec_mvGood.f k a0_0 a0_1).bind fun t283 => (if t283 = true then (spec_LongestStraight.j0 k (a0_0.toList == ([] : List UInt8)) a0_0 a0_1) else (spec_LongestStraight.j0 k true a0_0 a0_1))

theorem spec_LongestStraight.mono_l : ∀ k, (∀ y0 y1 y2, LeO (spec_LongestStraight.j0 k y0 y1 y2) (spec_LongestStraight.j0 (k + 1) y0 y1 y2)) ∧ (∀ y0 y1 y2 y3 y4, LeO (spec_LongestStraight.l0 k y0 y1 y2 y3 y4) (spec_LongestStraight.l0 (k + 1) y0 y1 y2 y3 y4)) ∧ (∀ y0 y1 y2 y3 y4 y5, LeO (spec_LongestStraight.j2 k y0 y1 y2 y3 y4 y5) (spec_LongestStraight.j2 (k + 1) y0 y1 y2 y3 y4 y5))
  | 0 => ⟨fun _ _ _ r h => by simp [spec_LongestStraight.j0] at h, fun _ _ _ _ _ r h => by simp [spec_LongestStraight.l0] at h, fun _ _ _ _ _ _ r h => by simp [spec_LongestStraight.j2] at h⟩
  | k + 1 => by
    obtain ⟨ih0, ih1, ih2⟩ := spec_LongestStraight.mono_l k
    refine ⟨?_, ?_, ?_⟩
    · intro y0 y1 y2
      unfold spec_LongestStraight.j0
      repeat' first
      | (with_reducible exact ih0 _ _ _)
      | (with_reducible exact ih1 _ _ _ _ _)
      | (with_reducible exact ih2 _ _ _ _ _ _)
      | (with_reducible exact spec_mvAll.mono _ _ _)
      | (with_reducible exact spec_mvGood.mono _ _ _)
      | (with_reducible exact LeO.refl _)
      | (with_reducible exact LeO.none _)
      | (with_reducible refine LeO.ite ?_ ?_)
      | (with_reducible refine LeO.bind ?_ (fun _ => ?_))
      | exact ih0 _ _ _
      | exact ih1 _ _ _ _ _
      | exact ih2 _ _ _ _ _ _
      | exact spec_mvAll.mono _ _ _
      | exact spec_mvGood.mono _ _ _
      | exact LeO.none _
      | refine LeO.ite ?_ ?_
      | refine LeO.bind ?_ (fun _ => ?_)
    · intro y0 y1 y2 y3 y4
      unfold spec_LongestStraight.l0
      repeat' first
      | (with_reducible exact ih0 _ _ _)
      | (with_reducible exact ih1 _ _ _ _ _)
      | (with_reducible exact ih2 _ _ _ _ _ _)
      | (with_reducible exact spec_mvAll.mono _ _ _)
      | (with_reducible exact spec_mvGood.mono _ _ _)
      | (with_reducible exact LeO.refl _)
      | (with_reducible exact LeO.none _)
      | (with_reducible refine LeO.ite ?_ ?_)
      | (with_reducible refine LeO.bind ?_ (fun _ => ?_))
      | exact ih0 _ _ _
      | exact ih1 _ _ _ _ _
      | exact ih2 _ _ _ _ _ _
      | exact spec_mvAll.mono _ _ _
      | exact spec_mvGood.mono _ _ _
      | exact LeO.none _
      | refine LeO.ite ?_ ?_
      | refine LeO.bind ?_ (fun _ => ?_)
    · intro y0 y1 y2 y3 y4 y5
      unfold spec_LongestStraight.j2
      repeat' first
      | (with_reducible exact ih0 _ _ _)
      | (with_reducible exact ih1 _ _ _ _ _)
      | (with_reducible exact ih2 _ _ _ _ _ _)
      | (with_reducible exact spec_mvAll.mono _ _ _)
      | (with_reducible exact spec_mvGood.mono _ _ _)
      | (with_reducible exact LeO.refl _)
      | (with_reducible exact LeO.none _)
      | (with_reducible refine LeO.ite ?_ ?_)
      | (with_reducible refine LeO.bind ?_ (fun _ => ?_))
      | exact ih0 _ _ _
      | exact ih1 _ _ _ _ _
      | exact ih2 _ _ _ _ _ _
      | exact spec_mvAll.mono _ _ _
      | exact spec_mvGood.mono _ _ _
      | exact LeO.none _
      | refine LeO.ite ?_ ?_
      | refine LeO.bind ?_ (fun _ => ?_)

theorem spec_LongestStraight.mono : ∀ a0 a1 k, LeO (spec_LongestStraight.f k a0 a1) (spec_LongestStraight.f (k + 1) a0 a1) := by
  intro a0 a1 k
  obtain ⟨ih0, ih1, ih2⟩ := spec_LongestStraight.mono_l k
  unfold spec_LongestStraight.f
  repeat' first
      | (with_reducible exact ih0 _ _ _)
      | (with_reducible exact ih1 _ _ _ _ _)
      | (with_reducible exact ih2 _ _ _ _ _ _)
      | (with_reducible exact spec_mvAll.mono _ _ _)
      | (with_reducible exact spec_mvGood.mono _ _ _)
      | (with_reducible exact LeO.refl _)
      | (with_reducible exact LeO.none _)
      | (with_reducible refine LeO.ite ?_ ?_)
      | (with_reducible refine LeO.bind ?_ (fun _ => ?_))
      | exact ih0 _ _ _
      | exact ih1 _ _ _ _ _
      | exact ih2 _ _ _ _ _ _
      | exact spec_mvAll.mono _ _ _
      | exact spec_mvGood.mono _ _ _
      | exact LeO.none _
      | refine LeO.ite ?_ ?_
      | refine LeO.bind ?_ (fun _ => ?_)

def spec_LongestStraight.e (k : Nat) : Refl.Ent G := ⟨16, [(.agg [.str, li])], .tup [(.c .str), (.c li), (.c .bool)], fun x => spec_LongestStraight.f k x.1 x.2⟩
def spec_LongestStraight.pj0 : Refl.Pn G (Refl.PT G (spec_LongestStraight.e 0).ol) := ⟨false, 1000001, ⟨[(17, .v (.c .bool)), (1, .box 1 0), (3, .k (Value.int IntKind.i64 0)), (4, .k (Value.bool false))], [(1, 24, gL2)]⟩, fun k x => spec_LongestStraight.j0 k x.1 x.2.1 x.2.2⟩
def spec_LongestStraight.pl0 : Refl.Pn G (Refl.PT G (spec_LongestStraight.e 0).ol) := ⟨true, 0, ⟨[(5, .v (.c .str)), (6, .v (.c .str)), (7, .v (.c li)), (8, .v (.c li)), (9, .v (.c li)), (3, .k (Value.int IntKind.i64 0)), (4, .k (Value.bool false))], []⟩, fun k x => spec_LongestStraight.l0 k x.1 x.2.1 x.2.2.1 x.2.2.2.1 x.2.2.2.2⟩
def spec_LongestStraight.pj2 : Refl.Pn G (Refl.PT G (spec_LongestStraight.e 0).ol) := ⟨false, 1000008, ⟨[(5, .v (.c .str)), (6, .v (.c .str)), (7, .v (.c li)), (8, .v (.c li)), (9, .v (.c li)), (39, .v (.c .bool)), (3, .k (Value.int IntKind.i64 0)), (4, .k (Value.bool false))], []⟩, fun k x => spec_LongestStraight.j2 k x.1 x.2.1 x.2.2.1 x.2.2.2.1 x.2.2.2.2.1 x.2.2.2.2.2⟩
theorem spec_LongestStraight.ok (k : Nat) : Refl.EntOK Tryz.prog (spec_LongestStraight.e k) := Refl.ent_ok 1000000 k GC (fun k => [spec_mvGood.e k, spec_mvAll.e k]) (fun k => ⟨spec_mvGood.ok k, spec_mvAll.ok k, trivial⟩) Tryz.func16 (by kernel_rfl) [spec_LongestStraight.pj0, spec_LongestStraight.pl0, spec_LongestStraight.pj2] (ps := [spec_LongestStraight.pj0, spec_LongestStraight.pl0, spec_LongestStraight.pj2]) (by kernel_rfl) ⟨⟨fun x => by kernel_rfl, fun k x => by kernel_rfl⟩, ⟨fun x => by kernel_rfl, fun k x => by kernel_rfl⟩, ⟨fun x => by kernel_rfl, fun k x => by kernel_rfl⟩, trivial⟩ (fun x => by kernel_rfl)

/-! ### impl_AllSteps: function 17 -/

def impl_AllSteps.f (k : Nat) (a0_0 : ByteArray) (a0_1 : Int) : Option (ByteArray × Bool) := (impl_IsMove.f k a0_0 a0_1).bind fun t286 => (if t286 = true then ((impl_Move_all.f a0_0 a0_1).bind fun t287 => (some (t287, true))) else (some ((⟨#[]⟩ : ByteArray), false)))

theorem impl_AllSteps.mono : ∀ a0 a1 k, LeO (impl_AllSteps.f k a0 a1) (impl_AllSteps.f (k + 1) a0 a1) := by
  intro a0 a1 k
  unfold impl_AllSteps.f
  repeat' first
      | (with_reducible exact impl_IsMove.mono _ _ _)
      | (with_reducible exact LeO.refl _)
      | (with_reducible exact LeO.none _)
      | (with_reducible refine LeO.ite ?_ ?_)
      | (with_reducible refine LeO.bind ?_ (fun _ => ?_))
      | exact impl_IsMove.mono _ _ _
      | exact LeO.none _
      | refine LeO.ite ?_ ?_
      | refine LeO.bind ?_ (fun _ => ?_)

def impl_AllSteps.e (k : Nat) : Refl.Ent G := ⟨17, [(.agg [.str, li])], .tup [(.c .str), (.c .bool)], fun x => impl_AllSteps.f k x.1 x.2⟩
theorem impl_AllSteps.ok (k : Nat) : Refl.EntOK Tryz.prog (impl_AllSteps.e k) := Refl.ent_ok 1000000 k GC (fun k => [impl_IsMove.e k, impl_Move_all.e k]) (fun k => ⟨impl_IsMove.ok k, impl_Move_all.ok k, trivial⟩) Tryz.func17 (by kernel_rfl) [] (ps := []) (by kernel_rfl) trivial (fun x => by kernel_rfl)

/-! ### spec_AllSteps: function 18 -/

def spec_AllSteps.f (k : Nat) (a0_0 : ByteArray) (a0_1 : Int) : Option (ByteArray × Bool) := (spec_mvGood.f k a0_0 a0_1).bind fun t289 => (if t289 = true then ((spec_mvAll.f k a0_0 a0_1).bind fun t290 => (some (t290, true))) else (some ((⟨#[]⟩ : ByteArray), false)))

theorem spec_AllSteps.mono : ∀ a0 a1 k, LeO (spec_AllSteps.f k a0 a1) (spec_AllSteps.f (k + 1) a0 a1) := by
  intro a0 a1 k
  unfold spec_AllSteps.f
  repeat' first
      | (with_reducible exact spec_mvAll.mono _ _ _)
      | (with_reducible exact spec_mvGood.mono _ _ _)
      | (with_reducible exact LeO.refl _)
      | (with_reducible exact LeO.none _)
      | (with_reducible refine LeO.ite ?_ ?_)
      | (with_reducible refine LeO.bind ?_ (fun _ => ?_))
      | exact spec_mvAll.mono _ _ _
      | exact spec_mvGood.mono _ _ _
      | exact LeO.none _
      | refine LeO.ite ?_ ?_
      | refine LeO.bind ?_ (fun _ => ?_)

def spec_AllSteps.e (k : Nat) : Refl.Ent G := ⟨18, [(.agg [.str, li])], .tup [(.c .str), (.c .bool)], fun x => spec_AllSteps.f k x.1 x.2⟩
theorem spec_AllSteps.ok (k : Nat) : Refl.EntOK Tryz.prog (spec_AllSteps.e k) := Refl.ent_ok 1000000 k GC (fun k => [spec_mvGood.e k, spec_mvAll.e k]) (fun k => ⟨spec_mvGood.ok k, spec_mvAll.ok k, trivial⟩) Tryz.func18 (by kernel_rfl) [] (ps := []) (by kernel_rfl) trivial (fun x => by kernel_rfl)

end Go.Proofs.YtolhmpagpoidjaaGreat.PA
