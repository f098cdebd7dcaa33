-- Written by a program of this session (wip/tools/myprint.py). Not trusted: Lean checks it.
import Derived.Test.YtgpkeclojbcgoaaGreatDoorCtx
namespace Go.Proofs.YtgpkeclojbcgoaaGreatDoor.PA
open Go.RowKit Go.Proofs.YtgpkeclojbcgoaaGreatDoorW.PrintWords Go.Proofs.YtgpkeclojbcgoaaGreatDoorW.PrintLast Go.Proofs.YtgpkeclojbcgoaaGreatDoorW.PrintMore
attribute [local go_sem] max2_int min2_int max_two min_two max_three min_three max_four min_four   -- for this text's walks alone
set_option linter.unusedVariables false
set_option linter.unusedSimpArgs false

/-- A state of type 66 at block g of W; what its slices lead to came in by w0. -/
def IsS66 (w0 W : World) (g : Nat) (f0 : List Int) (f1 : Int) (f2 : Int) : Prop := ∃ A0 c0, W.heap[g]? = some (.cells #[.slice A0 f0.length c0, .int .i64 f1, .int .u64 f2] 66 (0, 0)) ∧ w0.heap.size ≤ g ∧ Kd.C (Kd.int .u8) w0 A0 f0.length f0
theorem IsS66.grown {w0 W : World} {g : Nat} {f0 : List Int} {f1 : Int} {f2 : Int} {W1 : World} {row : Option Nat} (h : IsS66 w0 W g f0 f1 f2) (hw : W.grownBy W1 row) (hne : some g ≠ row) : IsS66 w0 W1 g f0 f1 f2 := by
  obtain ⟨A0, c0, hb, hg, hr0⟩ := h
  exact ⟨A0, c0, blk_grown hb hw hne, hg, hr0⟩
theorem IsS66.own_neN {w0 W : World} {g : Nat} {f0 : List Int} {f1 : Int} {f2 : Int} {α : Type} {d : Kd α} {e : Nat} {base : Nat} {ok : Nat → Prop} {v : Value} {xs : List α} (h : IsS66 w0 W g f0 f1 f2) (ho : Kd.N d e W base ok v xs) (ht : e ≠ 66) : some g ≠ v.ownBlock := by
  obtain ⟨A0, c0, hb, hg, hr0⟩ := h
  exact Kd.N_ne ho hb ht
theorem IsS66.fresh {w0 W : World} {g : Nat} {f0 : List Int} {f1 : Int} {f2 : Int} (h : IsS66 w0 W g f0 f1 f2) : ∀ k, W.heap.size ≤ k → k ≠ g := by
  obtain ⟨A0, c0, hb, hg, hr0⟩ := h
  exact Kd.freshB hb
theorem IsS66.kept {w0 W : World} {g : Nat} {f0 : List Int} {f1 : Int} {f2 : Int} {W1 : World} {S : Nat → Prop} (h : IsS66 w0 W g f0 f1 f2) (hk : Kept W W1 S) (hne : ¬ S g) : IsS66 w0 W1 g f0 f1 f2 := by
  obtain ⟨A0, c0, hb, hg, hr0⟩ := h
  exact ⟨A0, c0, blk_kept hb hk hne, hg, hr0⟩
theorem IsS66.below {w0 W : World} {g : Nat} {f0 : List Int} {f1 : Int} {f2 : Int} {W1 : World} (h : IsS66 w0 W g f0 f1 f2) (hw : Below W.heap.size W W1) : IsS66 w0 W1 g f0 f1 f2 := h.grown (grown_of_below hw none) (by simp)
theorem IsS66.alloc {w0 W : World} {g : Nat} {f0 : List Int} {f1 : Int} {f2 : Int} (h : IsS66 w0 W g f0 f1 f2) (o : Obj) : IsS66 w0 (W.alloc o) g f0 f1 f2 := h.below (below_alloc (Below.refl _ _) o)
theorem IsS66.drewN {w0 W : World} {g : Nat} {f0 : List Int} {f1 : Int} {f2 : Int} (h : IsS66 w0 W g f0 f1 f2) (m : Nat) : IsS66 w0 (W.drewN m) g f0 f1 f2 := h
theorem IsS66.drew {w0 W : World} {g : Nat} {f0 : List Int} {f1 : Int} {f2 : Int} (h : IsS66 w0 W g f0 f1 f2) : IsS66 w0 W.drew g f0 f1 f2 := h
theorem IsS66.at_ {w0 W : World} {g : Nat} {f0 : List Int} {f1 : Int} {f2 : Int} {w' : World} {m : Nat} (hq : W.drewN m = w') (h : IsS66 w0 W g f0 f1 f2) : IsS66 w0 w' g f0 f1 f2 := by subst hq; exact IsS66.drewN h m
theorem IsS66.apart {w0 W : World} {g : Nat} {f0 : List Int} {f1 : Int} {f2 : Int} {α : Type} {d : Kd α} {e : Nat} {base : Nat} {ok : Nat → Prop} {v : Value} {xs : List α} (h : IsS66 w0 W g f0 f1 f2) (ho : d.R e W base ok v xs) (ht : ∀ q, q ∈ e :: d.E → q ≠ 66) : d.R e W base (fun k => ok k ∧ k ≠ g) v xs := by
  obtain ⟨A0, c0, hb, hg, hr0⟩ := h
  exact Kd.R_types ho hb ht
theorem IsS66.own_ne {w0 W : World} {g : Nat} {f0 : List Int} {f1 : Int} {f2 : Int} {α : Type} {d : Kd α} {e : Nat} {base : Nat} {ok : Nat → Prop} {v : Value} {xs : List α} (h : IsS66 w0 W g f0 f1 f2) (ho : d.R e W base ok v xs) (ht : e ≠ 66) : some g ≠ v.ownBlock := by
  obtain ⟨A0, c0, hb, hg, hr0⟩ := h
  exact Kd.R_ne ho hb ht
theorem IsS66.apartQ {w0 W : World} {g : Nat} {f0 : List Int} {f1 : Int} {f2 : Int} {α : Type} {d : Kd α} {e : Nat} {base : Nat} {ok : Nat → Prop} {v : Value} {xs : List α} (h : IsS66 w0 W g f0 f1 f2) (ho : d.Q e W base ok v xs) (ht : ∀ q, q ∈ e :: d.E → q ≠ 66) : d.Q e W base (fun k => ok k ∧ k ≠ g) v xs := by
  obtain ⟨A0, c0, hb, hg, hr0⟩ := h
  exact Kd.Q_types ho hb ht
theorem IsS66.own_neQ {w0 W : World} {g : Nat} {f0 : List Int} {f1 : Int} {f2 : Int} {α : Type} {d : Kd α} {e : Nat} {base : Nat} {ok : Nat → Prop} {v : Value} {xs : List α} (h : IsS66 w0 W g f0 f1 f2) (ho : d.Q e W base ok v xs) (ht : e ≠ 66) : some g ≠ v.ownBlock := by
  obtain ⟨A0, c0, hb, hg, hr0⟩ := h
  exact Kd.Q_ne ho hb ht
theorem IsS66.apartS {w0 W : World} {g : Nat} {f0 : List Int} {f1 : Int} {f2 : Int} {α : Type} {d : Kd α} {e : Nat} {base : Nat} {ok : Nat → Prop} {v : Value} {xs : List α} (h : IsS66 w0 W g f0 f1 f2) (ho : d.S e W base ok v xs) (ht : ∀ q, q ∈ e :: d.E → q ≠ 66) : d.S e W base (fun k => ok k ∧ k ≠ g) v xs := by
  obtain ⟨A0, c0, hb, hg, hr0⟩ := h
  exact Kd.S_types ho hb ht
theorem IsS66.own_neS {w0 W : World} {g : Nat} {f0 : List Int} {f1 : Int} {f2 : Int} {α : Type} {d : Kd α} {e : Nat} {base : Nat} {ok : Nat → Prop} {v : Value} {xs : List α} (h : IsS66 w0 W g f0 f1 f2) (ho : d.S e W base ok v xs) (ht : e ≠ 66) : some g ≠ v.ownBlock := by
  obtain ⟨A0, c0, hb, hg, hr0⟩ := h
  exact Kd.S_ne ho hb ht
theorem IsS66.lt {w0 W : World} {g : Nat} {f0 : List Int} {f1 : Int} {f2 : Int} (h : IsS66 w0 W g f0 f1 f2) : g < W.heap.size := by
  obtain ⟨A0, c0, hb, hg, hr0⟩ := h
  exact blk_lt hb
theorem IsS66.ge {w0 W : World} {g : Nat} {f0 : List Int} {f1 : Int} {f2 : Int} (h : IsS66 w0 W g f0 f1 f2) : w0.heap.size ≤ g := by
  obtain ⟨A0, c0, hb, hg, hr0⟩ := h
  exact hg
theorem IsS66.ne_blk {w0 W : World} {g : Nat} {f0 : List Int} {f1 : Int} {f2 : Int} {a : Nat} {cs : Array Value} {t : TypeId} {fr : Nat × Nat} (h : IsS66 w0 W g f0 f1 f2) (hb2 : W.heap[a]? = some (.cells cs t fr)) (ht : t ≠ 66) : g ≠ a := by
  obtain ⟨A0, c0, hb, hg, hr0⟩ := h
  rintro rfl
  rw [hb] at hb2
  injection hb2 with hb2
  injection hb2 with _ ht2
  exact ht ht2.symm
theorem IsS66.far {w0 W : World} {g : Nat} {f0 : List Int} {f1 : Int} {f2 : Int} {p : Addr} (h : IsS66 w0 W g f0 f1 f2) (hne : g ≠ p.block) (u : Value) : IsS66 w0 (W.setCell p u) g f0 f1 f2 := by
  obtain ⟨A0, c0, hb, hg, hr0⟩ := h
  exact ⟨A0, c0, blk_far hb hne u, hg, hr0⟩
theorem cellS66_0 {W : World} {g : Nat} {A0 : Option Addr} {c0 : Nat} {f0 : List Int} {f1 : Int} {f2 : Int} (h : W.heap[g]? = some (.cells #[.slice A0 f0.length c0, .int .i64 f1, .int .u64 f2] 66 (0, 0))) : W.cell? ⟨g, 0, none⟩ = some (.slice A0 f0.length c0) := (blk_cell h 0).trans rfl
theorem cellS66_1 {W : World} {g : Nat} {A0 : Option Addr} {c0 : Nat} {f0 : List Int} {f1 : Int} {f2 : Int} (h : W.heap[g]? = some (.cells #[.slice A0 f0.length c0, .int .i64 f1, .int .u64 f2] 66 (0, 0))) : W.cell? ⟨g, 1, none⟩ = some (.int .i64 f1) := (blk_cell h 1).trans rfl
theorem IsS66.set_1 {w0 W : World} {g : Nat} {f0 : List Int} {f1 : Int} {f2 : Int} (h : IsS66 w0 W g f0 f1 f2) (x : Int) : IsS66 w0 (W.setCell ⟨g, 1, none⟩ (.int .i64 x)) g f0 x f2 := by
  obtain ⟨A0, c0, hb, hg, hr0⟩ := h
  exact ⟨A0, c0, by simpa using blk_set hb 1 (.int .i64 x), hg, hr0⟩
theorem cellS66_2 {W : World} {g : Nat} {A0 : Option Addr} {c0 : Nat} {f0 : List Int} {f1 : Int} {f2 : Int} (h : W.heap[g]? = some (.cells #[.slice A0 f0.length c0, .int .i64 f1, .int .u64 f2] 66 (0, 0))) : W.cell? ⟨g, 2, none⟩ = some (.int .u64 f2) := (blk_cell h 2).trans rfl
theorem IsS66.set_2 {w0 W : World} {g : Nat} {f0 : List Int} {f1 : Int} {f2 : Int} (h : IsS66 w0 W g f0 f1 f2) (x : Int) : IsS66 w0 (W.setCell ⟨g, 2, none⟩ (.int .u64 x)) g f0 f1 x := by
  obtain ⟨A0, c0, hb, hg, hr0⟩ := h
  exact ⟨A0, c0, by simpa using blk_set hb 2 (.int .u64 x), hg, hr0⟩
theorem IsS66.new (w0 W : World) (A0 : Option Addr) (c0 : Nat) (f0 : List Int) (f1 : Int) (f2 : Int) (hB : Below w0.heap.size w0 W) (hr0 : Kd.C (Kd.int .u8) w0 A0 f0.length f0) : IsS66 w0 (W.alloc (.cells #[.slice A0 f0.length c0, .int .i64 f1, .int .u64 f2] 66)) W.heap.size f0 f1 f2 := ⟨A0, c0, by simpa using heap_alloc_new W _, hB.size, hr0⟩

/-! ### spec_l1Cur_next: function 107 -/

def spec_l1Cur_next.f (s0_0 : List Int) (s0_1 : Int) (s0_2 : Int) : Option (Int × List Int × Int × Int) := if s0_1 < (s0_0.length : Int) then (if 0 ≤ s0_1 then (if s0_1 < (s0_0.length : Int) then (if (wrap64 (s0_1 + 1)) ≤ (s0_0.length : Int) then (some (wrap64 (rd s0_0 s0_1), s0_0, wrap64 (s0_1 + 1), IntKind.u64.wrap ((IntKind.u64.wrap ((IntKind.u64.wrap (s0_2 * 6364136223846793005)) + (IntKind.u64.wrap (wrap64 (rd s0_0 s0_1))))) + 1442695040888963407))) else (some (wrap64 (Go.bits .and .u64 ((IntKind.u64.wrap ((IntKind.u64.wrap ((IntKind.u64.wrap (s0_2 * 6364136223846793005)) + (IntKind.u64.wrap (wrap64 (rd s0_0 s0_1))))) + 1442695040888963407)) / 1099511627776) 255), s0_0, wrap64 (s0_1 + 1), IntKind.u64.wrap ((IntKind.u64.wrap ((IntKind.u64.wrap (s0_2 * 6364136223846793005)) + (IntKind.u64.wrap (wrap64 (rd s0_0 s0_1))))) + 1442695040888963407)))) else (none)) else (none)) else (if (wrap64 (s0_1 + 1)) ≤ (s0_0.length : Int) then (some (0, s0_0, wrap64 (s0_1 + 1), IntKind.u64.wrap ((IntKind.u64.wrap ((IntKind.u64.wrap (s0_2 * 6364136223846793005)) + (IntKind.u64.wrap (0)))) + 1442695040888963407))) else (some (wrap64 (Go.bits .and .u64 ((IntKind.u64.wrap ((IntKind.u64.wrap ((IntKind.u64.wrap (s0_2 * 6364136223846793005)) + (IntKind.u64.wrap (0)))) + 1442695040888963407)) / 1099511627776) 255), s0_0, wrap64 (s0_1 + 1), IntKind.u64.wrap ((IntKind.u64.wrap ((IntKind.u64.wrap (s0_2 * 6364136223846793005)) + (IntKind.u64.wrap (0)))) + 1442695040888963407))))

def spec_l1Cur_next.e (k : Nat) : Refl.Ent G := ⟨107, [(.wr 1000000 66 gL0)], .one (.c li), fun x => spec_l1Cur_next.f x.1 x.2.1 x.2.2⟩
theorem spec_l1Cur_next.ok (k : Nat) : Refl.EntOK Tryz.prog (spec_l1Cur_next.e k) := Refl.ent_ok 1000000 k GC (fun k => []) (fun k => trivial) Tryz.func107 (by kernel_rfl) [] (ps := []) (by kernel_rfl) trivial (fun x => by kernel_rfl)

/-! ### spec_l1Cur_pick: function 67 -/

def spec_l1Cur_pick.f (s0_0 : List Int) (s0_1 : Int) (s0_2 : Int) (a1 : Int) : Option (Int × List Int × Int × Int) := if a1 ≤ 1 then (some (0, s0_0, s0_1, s0_2)) else ((spec_l1Cur_next.f s0_0 s0_1 s0_2).bind fun bt102 => (if a1 > 200 then ((spec_l1Cur_next.f bt102.2.1 bt102.2.2.1 bt102.2.2.2).bind fun bt106 => (if a1 = 0 then (none) else (some (Int.tmod (wrap64 ((wrap64 (bt102.1 * 256)) + bt106.1)) a1, bt106.2.1, bt106.2.2.1, bt106.2.2.2)))) else (if a1 = 0 then (none) else (some (Int.tmod bt102.1 a1, bt102.2.1, bt102.2.2.1, bt102.2.2.2)))))

def spec_l1Cur_pick.e (k : Nat) : Refl.Ent G := ⟨67, [(.wr 1000000 66 gL0), (.c li)], .one (.c li), fun x => spec_l1Cur_pick.f x.1 x.2.1 x.2.2.1 x.2.2.2⟩
theorem spec_l1Cur_pick.ok (k : Nat) : Refl.EntOK Tryz.prog (spec_l1Cur_pick.e k) := Refl.ent_ok 1000000 k GC (fun k => [spec_l1Cur_next.e k]) (fun k => ⟨spec_l1Cur_next.ok k, trivial⟩) Tryz.func67 (by kernel_rfl) [] (ps := []) (by kernel_rfl) trivial (fun x => by kernel_rfl)

/-! ### spec_l1Cur_among: function 66 -/

def spec_l1Cur_among.f (s0_0 : List Int) (s0_1 : Int) (s0_2 : Int) (l1 : List Int) : Option (Int × List Int × Int × Int) := (spec_l1Cur_pick.f s0_0 s0_1 s0_2 (l1.length : Int)).bind fun bt110 => (if 0 ≤ bt110.1 then (if bt110.1 < (l1.length : Int) then (some (rd l1 bt110.1, bt110.2.1, bt110.2.2.1, bt110.2.2.2)) else (none)) else (none))

def spec_l1Cur_among.e (k : Nat) : Refl.Ent G := ⟨66, [(.wr 1000000 66 gL0), (.c (.row 3 false))], .one (.c li), fun x => spec_l1Cur_among.f x.1 x.2.1 x.2.2.1 x.2.2.2⟩
theorem spec_l1Cur_among.ok (k : Nat) : Refl.EntOK Tryz.prog (spec_l1Cur_among.e k) := Refl.ent_ok 1000000 k GC (fun k => [spec_l1Cur_pick.e k]) (fun k => ⟨spec_l1Cur_pick.ok k, trivial⟩) Tryz.func66 (by kernel_rfl) [] (ps := []) (by kernel_rfl) trivial (fun x => by kernel_rfl)

/-! ### spec_l1Cur_of: function 87 -/

def spec_l1Cur_of.f (s0_0 : List Int) (s0_1 : Int) (s0_2 : Int) (l1 : List ByteArray) : Option (ByteArray × List Int × Int × Int) := (spec_l1Cur_pick.f s0_0 s0_1 s0_2 (l1.length : Int)).bind fun bt115 => (if 0 ≤ bt115.1 then (if bt115.1 < (l1.length : Int) then (some (rdOf ByteArray.empty l1 bt115.1, bt115.2.1, bt115.2.2.1, bt115.2.2.2)) else (none)) else (none))

def spec_l1Cur_of.e (k : Nat) : Refl.Ent G := ⟨87, [(.wr 1000000 66 gL0), (.c (.row 9 false))], .one (.c .str), fun x => spec_l1Cur_of.f x.1 x.2.1 x.2.2.1 x.2.2.2⟩
theorem spec_l1Cur_of.ok (k : Nat) : Refl.EntOK Tryz.prog (spec_l1Cur_of.e k) := Refl.ent_ok 1000000 k GC (fun k => [spec_l1Cur_pick.e k]) (fun k => ⟨spec_l1Cur_pick.ok k, trivial⟩) Tryz.func87 (by kernel_rfl) [] (ps := []) (by kernel_rfl) trivial (fun x => by kernel_rfl)

/-! ### spec_l1Cur_one: function 92 -/

def spec_l1Cur_one.f (s0_0 : List Int) (s0_1 : Int) (s0_2 : Int) (a1 : Int) : Option (Bool × List Int × Int × Int) := (spec_l1Cur_pick.f s0_0 s0_1 s0_2 a1).bind fun bt120 => (some ((bt120.1 == 0), bt120.2.1, bt120.2.2.1, bt120.2.2.2))

def spec_l1Cur_one.e (k : Nat) : Refl.Ent G := ⟨92, [(.wr 1000000 66 gL0), (.c li)], .one (.c .bool), fun x => spec_l1Cur_one.f x.1 x.2.1 x.2.2.1 x.2.2.2⟩
theorem spec_l1Cur_one.ok (k : Nat) : Refl.EntOK Tryz.prog (spec_l1Cur_one.e k) := Refl.ent_ok 1000000 k GC (fun k => [spec_l1Cur_pick.e k]) (fun k => ⟨spec_l1Cur_pick.ok k, trivial⟩) Tryz.func92 (by kernel_rfl) [] (ps := []) (by kernel_rfl) trivial (fun x => by kernel_rfl)

/-! ### spec_l1Cur_move: function 85 -/

mutual
def spec_l1Cur_move.j0 : Nat → Int → List Int → Int → Int → ByteArray → Int → Option (ByteArray × Int × List Int × Int × Int)
  | 0, _, _, _, _, _, _ => none
  | k + 1, x4, x1000, x1001, x1002, x133000, x133001 => spec_l1Cur_move.l0 k x4 x1000 x1001 x1002 x133000 x133001
def spec_l1Cur_move.l0 : Nat → Int → List Int → Int → Int → ByteArray → Int → Option (ByteArray × Int × List Int × Int × Int)
  | 0, _, _, _, _, _, _ => none
  | k + 1, x4, x1000, x1001, x1002, x133000, x133001 => if (x133000.size : Int) < x4 then ((spec_l1Cur_of.f x1000 x1001 x1002 (([(⟨#[117]⟩ : ByteArray), (⟨#[100]⟩ : ByteArray), (⟨#[108]⟩ : ByteArray), (⟨#[114]⟩ : ByteArray), (⟨#[108]⟩ : ByteArray), (⟨#[114]⟩ : ByteArray), (⟨#[102]⟩ : ByteArray), (⟨#[98]⟩ : ByteArray)] : List ByteArray))).bind fun bt143 => (if x133000.size + bt143.1.size ≤ 9223372036854775807 then (spec_l1Cur_move.l0 k x4 bt143.2.1 bt143.2.2.1 bt143.2.2.2 (x133000 ++ bt143.1) x133001) else (none))) else (if x4 = 4 then ((spec_l1Cur_one.f x1000 x1001 x1002 2).bind fun bt147 => (if bt147.1 = true then (if 0 ≤ 2 then (if 2 ≤ (x133000.size : Int) then (if 0 ≤ 2 then (if 2 ≤ (x133000.size : Int) then (if (x133000.extract 0 2).size + (x133000.extract 0 2).size ≤ 9223372036854775807 then (some ((x133000.extract 0 2) ++ (x133000.extract 0 2), x133001, bt147.2.1, bt147.2.2.1, bt147.2.2.2)) else (none)) else (none)) else (none)) else (none)) else (none)) else (some (x133000, x133001, bt147.2.1, bt147.2.2.1, bt147.2.2.2)))) else (some (x133000, x133001, x1000, x1001, x1002)))
end

def spec_l1Cur_move.f (k : Nat) (s0_0 : List Int) (s0_1 : Int) (s0_2 : Int) : Option (ByteArray × Int × List Int × Int × Int) := (spec_l1Cur_among.f s0_0 s0_1 s0_2 (([1, 1, 2, 3] : List Int))).bind fun bt128 => ((spec_l1Cur_among.f bt128.2.1 bt128.2.2.1 bt128.2.2.2 (([0, 1, 2, 2, 3, 4, 6] : List Int))).bind fun bt136 => (if bt136.1 = 0 then (spec_l1Cur_move.l0 k bt136.1 bt136.2.1 bt136.2.2.1 bt136.2.2.2 (⟨#[]⟩ : ByteArray) 1) else (spec_l1Cur_move.l0 k bt136.1 bt136.2.1 bt136.2.2.1 bt136.2.2.2 (⟨#[]⟩ : ByteArray) bt128.1)))

theorem spec_l1Cur_move.mono_l : ∀ k, (∀ y0 y1 y2 y3 y4 y5, LeO (spec_l1Cur_move.j0 k y0 y1 y2 y3 y4 y5) (spec_l1Cur_move.j0 (k + 1) y0 y1 y2 y3 y4 y5)) ∧ (∀ y0 y1 y2 y3 y4 y5, LeO (spec_l1Cur_move.l0 k y0 y1 y2 y3 y4 y5) (spec_l1Cur_move.l0 (k + 1) y0 y1 y2 y3 y4 y5))
  | 0 => ⟨fun _ _ _ _ _ _ r h => by simp [spec_l1Cur_move.j0] at h, fun _ _ _ _ _ _ r h => by simp [spec_l1Cur_move.l0] at h⟩
  | k + 1 => by
    obtain ⟨ih0, ih1⟩ := spec_l1Cur_move.mono_l k
    refine ⟨?_, ?_⟩
    · intro y0 y1 y2 y3 y4 y5
      unfold spec_l1Cur_move.j0
      repeat' first
      | (with_reducible exact ih0 _ _ _ _ _ _)
      | (with_reducible exact ih1 _ _ _ _ _ _)
      | (with_reducible exact LeO.refl _)
      | (with_reducible exact LeO.none _)
      | (with_reducible refine LeO.ite ?_ ?_)
      | (with_reducible refine LeO.bind ?_ (fun _ => ?_))
      | exact ih0 _ _ _ _ _ _
      | exact ih1 _ _ _ _ _ _
      | exact LeO.none _
      | refine LeO.ite ?_ ?_
      | refine LeO.bind ?_ (fun _ => ?_)
    · intro y0 y1 y2 y3 y4 y5
      unfold spec_l1Cur_move.l0
      repeat' first
      | (with_reducible exact ih0 _ _ _ _ _ _)
      | (with_reducible exact ih1 _ _ _ _ _ _)
      | (with_reducible exact LeO.refl _)
      | (with_reducible exact LeO.none _)
      | (with_reducible refine LeO.ite ?_ ?_)
      | (with_reducible refine LeO.bind ?_ (fun _ => ?_))
      | exact ih0 _ _ _ _ _ _
      | exact ih1 _ _ _ _ _ _
      | exact LeO.none _
      | refine LeO.ite ?_ ?_
      | refine LeO.bind ?_ (fun _ => ?_)

theorem spec_l1Cur_move.mono : ∀ a0 a1 a2 k, LeO (spec_l1Cur_move.f k a0 a1 a2) (spec_l1Cur_move.f (k + 1) a0 a1 a2) := by
  intro a0 a1 a2 k
  obtain ⟨ih0, ih1⟩ := spec_l1Cur_move.mono_l k
  unfold spec_l1Cur_move.f
  repeat' first
      | (with_reducible exact ih0 _ _ _ _ _ _)
      | (with_reducible exact ih1 _ _ _ _ _ _)
      | (with_reducible exact LeO.refl _)
      | (with_reducible exact LeO.none _)
      | (with_reducible refine LeO.ite ?_ ?_)
      | (with_reducible refine LeO.bind ?_ (fun _ => ?_))
      | exact ih0 _ _ _ _ _ _
      | exact ih1 _ _ _ _ _ _
      | exact LeO.none _
      | refine LeO.ite ?_ ?_
      | refine LeO.bind ?_ (fun _ => ?_)

def spec_l1Cur_move.e (k : Nat) : Refl.Ent G := ⟨85, [(.wr 1000000 66 gL0)], .one (.agg [.str, li]), fun x => spec_l1Cur_move.f k x.1 x.2.1 x.2.2⟩
def spec_l1Cur_move.pl0 : Refl.Pn G (Refl.PT G (spec_l1Cur_move.e 0).ol) := ⟨true, 0, ⟨[(4, .v (.c li)), (0, .box 1000000 0), (3, .box 3 0), (2, .box 2 0)], [(1000000, 66, gL1), (3, 51, gL2), (2, 51, gL3)]⟩, fun k x => spec_l1Cur_move.l0 k x.1 x.2.1 x.2.2.1 x.2.2.2.1 x.2.2.2.2.1 x.2.2.2.2.2⟩
theorem spec_l1Cur_move.ok (k : Nat) : Refl.EntOK Tryz.prog (spec_l1Cur_move.e k) := Refl.ent_ok 1000000 k GC (fun k => [spec_l1Cur_among.e k, spec_l1Cur_of.e k, spec_l1Cur_one.e k]) (fun k => ⟨spec_l1Cur_among.ok k, spec_l1Cur_of.ok k, spec_l1Cur_one.ok k, trivial⟩) Tryz.func85 (by kernel_rfl) [spec_l1Cur_move.pl0] (ps := [spec_l1Cur_move.pl0]) (by kernel_rfl) ⟨⟨fun x => by kernel_rfl, fun k x => by kernel_rfl⟩, trivial⟩ (fun x => by kernel_rfl)

/-! ### spec_l1Cur_anyMove: function 91 -/

def spec_l1Cur_anyMove.f (k : Nat) (s0_0 : List Int) (s0_1 : Int) (s0_2 : Int) : Option (ByteArray × Int × List Int × Int × Int) := (spec_l1Cur_move.f k s0_0 s0_1 s0_2).bind fun bt152 => ((spec_l1Cur_pick.f bt152.2.2.1 bt152.2.2.2.1 bt152.2.2.2.2 30).bind fun bt158 => (if bt158.1 = 0 then ((spec_l1Cur_among.f bt158.2.1 bt158.2.2.1 bt158.2.2.2 (([0, 4, (-9223372036854775808)] : List Int))).bind fun bt165 => (some (bt152.1, bt165.1, bt165.2.1, bt165.2.2.1, bt165.2.2.2))) else (if bt158.1 = 1 then ((spec_l1Cur_of.f bt158.2.1 bt158.2.2.1 bt158.2.2.2 (([(⟨#[120]⟩ : ByteArray), (⟨#[117, 117, 117, 117, 117, 117, 117]⟩ : ByteArray), (⟨#[85]⟩ : ByteArray)] : List ByteArray))).bind fun bt172 => (if bt152.1.size + bt172.1.size ≤ 9223372036854775807 then (some (bt152.1 ++ bt172.1, bt152.2.1, bt172.2.1, bt172.2.2.1, bt172.2.2.2)) else (none))) else (if bt158.1 = 2 then (some ((⟨#[]⟩ : ByteArray), 2, bt158.2.1, bt158.2.2.1, bt158.2.2.2)) else (some (bt152.1, bt152.2.1, bt158.2.1, bt158.2.2.1, bt158.2.2.2))))))

theorem spec_l1Cur_anyMove.mono : ∀ a0 a1 a2 k, LeO (spec_l1Cur_anyMove.f k a0 a1 a2) (spec_l1Cur_anyMove.f (k + 1) a0 a1 a2) := by
  intro a0 a1 a2 k
  unfold spec_l1Cur_anyMove.f
  repeat' first
      | (with_reducible exact spec_l1Cur_move.mono _ _ _ _)
      | (with_reducible exact LeO.refl _)
      | (with_reducible exact LeO.none _)
      | (with_reducible refine LeO.ite ?_ ?_)
      | (with_reducible refine LeO.bind ?_ (fun _ => ?_))
      | exact spec_l1Cur_move.mono _ _ _ _
      | exact LeO.none _
      | refine LeO.ite ?_ ?_
      | refine LeO.bind ?_ (fun _ => ?_)

def spec_l1Cur_anyMove.e (k : Nat) : Refl.Ent G := ⟨91, [(.wr 1000000 66 gL0)], .one (.agg [.str, li]), fun x => spec_l1Cur_anyMove.f k x.1 x.2.1 x.2.2⟩
theorem spec_l1Cur_anyMove.ok (k : Nat) : Refl.EntOK Tryz.prog (spec_l1Cur_anyMove.e k) := Refl.ent_ok 1000000 k GC (fun k => [spec_l1Cur_move.e k, spec_l1Cur_pick.e k, spec_l1Cur_among.e k, spec_l1Cur_of.e k]) (fun k => ⟨spec_l1Cur_move.ok k, spec_l1Cur_pick.ok k, spec_l1Cur_among.ok k, spec_l1Cur_of.ok k, trivial⟩) Tryz.func91 (by kernel_rfl) [] (ps := []) (by kernel_rfl) trivial (fun x => by kernel_rfl)

/-! ### spec_DrawIsMove: function 77 -/

def spec_DrawIsMove.f (k : Nat) (l0 : List Int) : Option (ByteArray × Int) := (spec_l1Cur_anyMove.f k l0 0 0).bind fun bt178 => (some (bt178.1, bt178.2.1))

theorem spec_DrawIsMove.mono : ∀ a0 k, LeO (spec_DrawIsMove.f k a0) (spec_DrawIsMove.f (k + 1) a0) := by
  intro a0 k
  unfold spec_DrawIsMove.f
  repeat' first
      | (with_reducible exact spec_l1Cur_anyMove.mono _ _ _ _)
      | (with_reducible exact LeO.refl _)
      | (with_reducible exact LeO.none _)
      | (with_reducible refine LeO.ite ?_ ?_)
      | (with_reducible refine LeO.bind ?_ (fun _ => ?_))
      | exact spec_l1Cur_anyMove.mono _ _ _ _
      | exact LeO.none _
      | refine LeO.ite ?_ ?_
      | refine LeO.bind ?_ (fun _ => ?_)

def spec_DrawIsMove.e (k : Nat) : Refl.Ent G := ⟨77, [(.c (.row 5 false))], .one (.agg [.str, li]), fun x => spec_DrawIsMove.f k x⟩
theorem spec_DrawIsMove.ok (k : Nat) : Refl.EntOK Tryz.prog (spec_DrawIsMove.e k) := Refl.ent_ok 1000000 k GC (fun k => [spec_l1Cur_anyMove.e k]) (fun k => ⟨spec_l1Cur_anyMove.ok k, trivial⟩) Tryz.func77 (by kernel_rfl) [] (ps := []) (by kernel_rfl) trivial (fun x => by kernel_rfl)

/-! ### spec_DrawNormalMove: function 31 -/

def spec_DrawNormalMove.f (k : Nat) (l0 : List Int) : Option (ByteArray × Int) := (spec_DrawIsMove.f k l0).bind fun bt184 => (some (bt184.1, bt184.2))

theorem spec_DrawNormalMove.mono : ∀ a0 k, LeO (spec_DrawNormalMove.f k a0) (spec_DrawNormalMove.f (k + 1) a0) := by
  intro a0 k
  unfold spec_DrawNormalMove.f
  repeat' first
      | (with_reducible exact spec_DrawIsMove.mono _ _)
      | (with_reducible exact LeO.refl _)
      | (with_reducible exact LeO.none _)
      | (with_reducible refine LeO.ite ?_ ?_)
      | (with_reducible refine LeO.bind ?_ (fun _ => ?_))
      | exact spec_DrawIsMove.mono _ _
      | exact LeO.none _
      | refine LeO.ite ?_ ?_
      | refine LeO.bind ?_ (fun _ => ?_)

def spec_DrawNormalMove.e (k : Nat) : Refl.Ent G := ⟨31, [(.c (.row 5 false))], .one (.agg [.str, li]), fun x => spec_DrawNormalMove.f k x⟩
theorem spec_DrawNormalMove.ok (k : Nat) : Refl.EntOK Tryz.prog (spec_DrawNormalMove.e k) := Refl.ent_ok 1000000 k GC (fun k => [spec_DrawIsMove.e k]) (fun k => ⟨spec_DrawIsMove.ok k, trivial⟩) Tryz.func31 (by kernel_rfl) [] (ps := []) (by kernel_rfl) trivial (fun x => by kernel_rfl)

/-! ### impl_within: function 68 -/

-- JOINS  | BOXES 
def impl_within.f (a0 : Int) (a1 : Int) (a2 : Int) : Option (Bool) := if a0 ≥ a1 then (some (decide (a0 ≤ a2))) else (some false)
set_option maxHeartbeats 8000000 in
set_option maxRecDepth 100000 in
theorem impl_within.calls (a0 : Int) (a1 : Int) (a2 : Int) (r : Bool) (w : World) (h : impl_within.f a0 a1 a2 = some r) :
    Calls Tryz.prog 68 #[.int .i64 a0, .int .i64 a1, .int .i64 a2] w fun e w' => e = .returned (.bool r) ∧ Drawn0 w w' := by
  have H : (if a0 ≥ a1 then (some (decide (a0 ≤ a2))) else (some false)) = some r := h
  clear h
  by_cases c4 : a0 ≥ a1
  · rw [if_pos c4] at H
    have c4b0 : decide (a1 ≤ a0) = true := decide_eq_true c4
    clear c4
    obtain rfl := Option.some.inj H
    go_enter Tryz.func68, Tryz.ntmps68
    go_wp2
    go_ret
    exact ⟨by first | rfl | (simp; done) | (simp [*]; done), by repeat (first | exact Drawn0.refl _ | apply Drawn0.step)⟩
  · rw [if_neg c4] at H
    have c4b0 : decide (a1 ≤ a0) = false := decide_eq_false c4
    clear c4
    obtain rfl := Option.some.inj H
    go_enter Tryz.func68, Tryz.ntmps68
    go_wp2
    go_ret
    exact ⟨by first | rfl | (simp; done) | (simp [*]; done), by repeat (first | exact Drawn0.refl _ | apply Drawn0.step)⟩

def impl_within.e (k : Nat) : Refl.Ent G := ⟨68, [(.c li), (.c li), (.c li)], .one (.c .bool), fun x => impl_within.f x.1 x.2.1 x.2.2⟩
theorem impl_within.ok (k : Nat) : Refl.EntOK Tryz.prog (impl_within.e k) := Refl.ent_ok 1000000 k GC (fun k => []) (fun k => trivial) Tryz.func68 (by kernel_rfl) [] (ps := []) (by kernel_rfl) trivial (fun x => by kernel_rfl)

/-! ### strings_IndexByte: function 117 -/

def strings_IndexByte.f (a0 : ByteArray) (a1 : Int) : Option Int := some (Lib.indexByte a0.data.toList a1.toNat.toUInt8)
theorem strings_IndexByte.calls (a0 : ByteArray) (a1 : Int) (r : Int) (w : World) (h : strings_IndexByte.f a0 a1 = some r) :
    Calls Tryz.prog 117 #[.string a0, .int .u8 a1] w fun e w' => e = .returned (.int .i64 r) ∧ Drawn0 w w' := by
  obtain rfl := Option.some.inj h
  exact (Tryz.strings_IndexByte a0 a1 w).mono fun e w' ⟨he, hw⟩ => ⟨he, hw ▸ Drawn0.refl _⟩

def strings_IndexByte.e (k : Nat) : Refl.Ent G := ⟨117, [(.c .str), (.c (.int .u8))], .one (.c li), fun x => strings_IndexByte.f x.1 x.2⟩
theorem strings_IndexByte.ok (k : Nat) : Refl.EntOK Tryz.prog (strings_IndexByte.e k) := Refl.entOK_hand Tryz.func117 (by kernel_rfl) (fun x => by kernel_rfl) (fun y => ⟨by kernel_rfl, by kernel_rfl, by kernel_rfl, by kernel_rfl⟩) (fun x y h w => (strings_IndexByte.calls x.1 x.2 y w h).mono fun e w' hh => ⟨hh.1, hh.2.below⟩)

/-! ### impl_hasOnly: function 93 -/

def impl_hasOnly.l0 : Nat → ByteArray → ByteArray → Int → Int → Option (Bool)
  | 0, _, _, _, _ => none
  | k + 1, x0, x1, x7, x8 => if x8 < x7 then (if 0 ≤ x8 then (if x8 < (x0.size : Int) then ((strings_IndexByte.f x1 (bt x0 x8)).bind fun t186 => (if t186 < 0 then (some false) else (impl_hasOnly.l0 k x0 x1 x7 (wrap64 (x8 + 1))))) else (none)) else (none)) else (some true)

def impl_hasOnly.f (k : Nat) (a0 : ByteArray) (a1 : ByteArray) : Option (Bool) := impl_hasOnly.l0 k a0 a1 (a0.size : Int) 0

theorem impl_hasOnly.mono_l : ∀ k, (∀ y0 y1 y2 y3, LeO (impl_hasOnly.l0 k y0 y1 y2 y3) (impl_hasOnly.l0 (k + 1) y0 y1 y2 y3))
  | 0 => fun _ _ _ _ r h => by simp [impl_hasOnly.l0] at h
  | k + 1 => by
    have ih0 := impl_hasOnly.mono_l k
    · intro y0 y1 y2 y3
      unfold impl_hasOnly.l0
      repeat' first
      | (with_reducible exact ih0 _ _ _ _)
      | (with_reducible exact LeO.refl _)
      | (with_reducible exact LeO.none _)
      | (with_reducible refine LeO.ite ?_ ?_)
      | (with_reducible refine LeO.bind ?_ (fun _ => ?_))
      | exact ih0 _ _ _ _
      | exact LeO.none _
      | refine LeO.ite ?_ ?_
      | refine LeO.bind ?_ (fun _ => ?_)

theorem impl_hasOnly.mono : ∀ a0 a1 k, LeO (impl_hasOnly.f k a0 a1) (impl_hasOnly.f (k + 1) a0 a1) := by
  intro a0 a1 k
  have ih0 := impl_hasOnly.mono_l k
  unfold impl_hasOnly.f
  repeat' first
      | (with_reducible exact ih0 _ _ _ _)
      | (with_reducible exact LeO.refl _)
      | (with_reducible exact LeO.none _)
      | (with_reducible refine LeO.ite ?_ ?_)
      | (with_reducible refine LeO.bind ?_ (fun _ => ?_))
      | exact ih0 _ _ _ _
      | exact LeO.none _
      | refine LeO.ite ?_ ?_
      | refine LeO.bind ?_ (fun _ => ?_)

def impl_hasOnly.e (k : Nat) : Refl.Ent G := ⟨93, [(.c .str), (.c .str)], .one (.c .bool), fun x => impl_hasOnly.f k x.1 x.2⟩
def impl_hasOnly.pl0 : Refl.Pn G (Refl.PT G (impl_hasOnly.e 0).ol) := ⟨true, 0, ⟨[(0, .v (.c .str)), (1, .v (.c .str)), (7, .v (.c li)), (8, .v (.c li)), (4, .k (Value.bool false))], []⟩, fun k x => impl_hasOnly.l0 k x.1 x.2.1 x.2.2.1 x.2.2.2⟩
theorem impl_hasOnly.ok (k : Nat) : Refl.EntOK Tryz.prog (impl_hasOnly.e k) := Refl.ent_ok 1000000 k GC (fun k => [strings_IndexByte.e k]) (fun k => ⟨strings_IndexByte.ok k, trivial⟩) Tryz.func93 (by kernel_rfl) [impl_hasOnly.pl0] (ps := [impl_hasOnly.pl0]) (by kernel_rfl) ⟨⟨fun x => by kernel_rfl, fun k x => by kernel_rfl⟩, trivial⟩ (fun x => by kernel_rfl)

/-! ### impl_IsMove: function 44 -/

def impl_IsMove.f (k : Nat) (a0_0 : ByteArray) (a0_1 : Int) : Option (Bool) := if (a0_0.size : Int) ≤ 6 then ((impl_hasOnly.f k a0_0 (⟨#[117, 100, 108, 114, 102, 98]⟩ : ByteArray)).bind fun t188 => (if t188 = true then ((impl_within.f a0_1 1 3).bind fun t189 => (if t189 = true then (if a0_0.toList = ([] : List UInt8) then (some (a0_1 == 1)) else (some true)) else (some false))) else (some false))) else (some false)

theorem impl_IsMove.mono : ∀ a0 a1 k, LeO (impl_IsMove.f k a0 a1) (impl_IsMove.f (k + 1) a0 a1) := by
  intro a0 a1 k
  unfold impl_IsMove.f
  repeat' first
      | (with_reducible exact impl_hasOnly.mono _ _ _)
      | (with_reducible exact LeO.refl _)
      | (with_reducible exact LeO.none _)
      | (with_reducible refine LeO.ite ?_ ?_)
      | (with_reducible refine LeO.bind ?_ (fun _ => ?_))
      | exact impl_hasOnly.mono _ _ _
      | exact LeO.none _
      | refine LeO.ite ?_ ?_
      | refine LeO.bind ?_ (fun _ => ?_)

def impl_IsMove.e (k : Nat) : Refl.Ent G := ⟨44, [(.agg [.str, li])], .one (.c .bool), fun x => impl_IsMove.f k x.1 x.2⟩
theorem impl_IsMove.ok (k : Nat) : Refl.EntOK Tryz.prog (impl_IsMove.e k) := Refl.ent_ok 1000000 k GC (fun k => [impl_hasOnly.e k, impl_within.e k]) (fun k => ⟨impl_hasOnly.ok k, impl_within.ok k, trivial⟩) Tryz.func44 (by kernel_rfl) [] (ps := []) (by kernel_rfl) trivial (fun x => by kernel_rfl)

/-! ### strings_Repeat: function 111 -/

def strings_Repeat.f (a0 : ByteArray) (a1 : Int) : Option ByteArray :=
  if 0 ≤ a1 ∧ a1 ≤ 9223372036854775807 ∧ a0.size * a1.toNat ≤ 140737488355328 then some ⟨(Lib.repeatL a0.data.toList a1.toNat).toArray⟩ else none
theorem strings_Repeat.calls (a0 : ByteArray) (a1 : Int) (r : ByteArray) (w : World) (h : strings_Repeat.f a0 a1 = some r) :
    Calls Tryz.prog 111 #[.string a0, .int .i64 a1] w fun e w' => e = .returned (.string r) ∧ Below w.heap.size w w' := by
  unfold strings_Repeat.f at h
  split at h
  · rename_i hc
    obtain rfl := Option.some.inj h
    obtain ⟨c, rfl⟩ := Int.eq_ofNat_of_zero_le hc.1
    exact Tryz.strings_Repeat a0 c w (by omega) (by simpa using hc.2.2)
  · exact absurd h (by simp)

def strings_Repeat.e (k : Nat) : Refl.Ent G := ⟨111, [(.c .str), (.c li)], .one (.c .str), fun x => strings_Repeat.f x.1 x.2⟩
theorem strings_Repeat.ok (k : Nat) : Refl.EntOK Tryz.prog (strings_Repeat.e k) := Refl.entOK_hand Tryz.func111 (by kernel_rfl) (fun x => by kernel_rfl) (fun y => ⟨by kernel_rfl, by kernel_rfl, by kernel_rfl, by kernel_rfl⟩) (fun x y h w => (strings_Repeat.calls x.1 x.2 y w h).mono fun e w' hh => ⟨hh.1, hh.2⟩)

/-! ### impl_Move_all: function 81 -/

def impl_Move_all.f (a0_0 : ByteArray) (a0_1 : Int) : Option (ByteArray) := (strings_Repeat.f a0_0 a0_1).bind fun t191 => (some t191)

def impl_Move_all.e (k : Nat) : Refl.Ent G := ⟨81, [(.agg [.str, li])], .one (.c .str), fun x => impl_Move_all.f x.1 x.2⟩
theorem impl_Move_all.ok (k : Nat) : Refl.EntOK Tryz.prog (impl_Move_all.e k) := Refl.ent_ok 1000000 k GC (fun k => [strings_Repeat.e k]) (fun k => ⟨strings_Repeat.ok k, trivial⟩) Tryz.func81 (by kernel_rfl) [] (ps := []) (by kernel_rfl) trivial (fun x => by kernel_rfl)

/-! ### impl_moveOf: function 108 -/

def impl_moveOf.l0 : Nat → ByteArray → Int → Option (ByteArray × Int × Bool)
  | 0, _, _ => none
  | k + 1, x0, x4 => if x4 ≥ 1 then (if x4 = 0 then (none) else (if 0 ≤ (wrap64 (Int.tdiv (x0.size : Int) x4)) then (if (wrap64 (Int.tdiv (x0.size : Int) x4)) ≤ (x0.size : Int) then (if ((x0.extract 0 ((wrap64 (Int.tdiv (x0.size : Int) x4)) : Int).toNat).size : Int) ≤ 6 then ((strings_Repeat.f (x0.extract 0 ((wrap64 (Int.tdiv (x0.size : Int) x4)) : Int).toNat) x4).bind fun t193 => (if t193.toList = x0.toList then (some (x0.extract 0 ((wrap64 (Int.tdiv (x0.size : Int) x4)) : Int).toNat, x4, true)) else (impl_moveOf.l0 k x0 (wrap64 (x4 - 1))))) else (impl_moveOf.l0 k x0 (wrap64 (x4 - 1)))) else (none)) else (none))) else (some ((⟨#[]⟩ : ByteArray), 0, false))

def impl_moveOf.f (k : Nat) (a0 : ByteArray) : Option (ByteArray × Int × Bool) := if a0.toList = ([] : List UInt8) then (some ((⟨#[]⟩ : ByteArray), 1, true)) else (impl_moveOf.l0 k a0 3)

theorem impl_moveOf.mono_l : ∀ k, (∀ y0 y1, LeO (impl_moveOf.l0 k y0 y1) (impl_moveOf.l0 (k + 1) y0 y1))
  | 0 => fun _ _ r h => by simp [impl_moveOf.l0] at h
  | k + 1 => by
    have ih0 := impl_moveOf.mono_l k
    · intro y0 y1
      unfold impl_moveOf.l0
      repeat' first
      | (with_reducible exact ih0 _ _)
      | (with_reducible exact LeO.refl _)
      | (with_reducible exact LeO.none _)
      | (with_reducible refine LeO.ite ?_ ?_)
      | (with_reducible refine LeO.bind ?_ (fun _ => ?_))
      | exact ih0 _ _
      | exact LeO.none _
      | refine LeO.ite ?_ ?_
      | refine LeO.bind ?_ (fun _ => ?_)

theorem impl_moveOf.mono : ∀ a0 k, LeO (impl_moveOf.f k a0) (impl_moveOf.f (k + 1) a0) := by
  intro a0 k
  have ih0 := impl_moveOf.mono_l k
  unfold impl_moveOf.f
  repeat' first
      | (with_reducible exact ih0 _ _)
      | (with_reducible exact LeO.refl _)
      | (with_reducible exact LeO.none _)
      | (with_reducible refine LeO.ite ?_ ?_)
      | (with_reducible refine LeO.bind ?_ (fun _ => ?_))
      | exact ih0 _ _
      | exact LeO.none _
      | refine LeO.ite ?_ ?_
      | refine LeO.bind ?_ (fun _ => ?_)

def impl_moveOf.e (k : Nat) : Refl.Ent G := ⟨108, [(.c .str)], .tup [(.agg [.str, li]), (.c .bool)], fun x => impl_moveOf.f k x⟩
def impl_moveOf.pl0 : Refl.Pn G (Refl.PT G (impl_moveOf.e 0).ol) := ⟨true, 0, ⟨[(0, .v (.c .str)), (4, .v (.c li)), (2, .box 2 0), (3, .k (Value.bool false))], [(2, 51, gL3)]⟩, fun k x => impl_moveOf.l0 k x.1 x.2⟩
theorem impl_moveOf.ok (k : Nat) : Refl.EntOK Tryz.prog (impl_moveOf.e k) := Refl.ent_ok 1000000 k GC (fun k => [strings_Repeat.e k]) (fun k => ⟨strings_Repeat.ok k, trivial⟩) Tryz.func108 (by kernel_rfl) [impl_moveOf.pl0] (ps := [impl_moveOf.pl0]) (by kernel_rfl) ⟨⟨fun x => by kernel_rfl, fun k x => by kernel_rfl⟩, trivial⟩ (fun x => by kernel_rfl)

/-! ### impl_Move_normal: function 78 -/

def impl_Move_normal.f (k : Nat) (a0_0 : ByteArray) (a0_1 : Int) : Option (ByteArray × Int) := (impl_Move_all.f a0_0 a0_1).bind fun t196 => ((impl_moveOf.f k t196).bind fun bt197 => (some (bt197.1, bt197.2.1)))

theorem impl_Move_normal.mono : ∀ a0 a1 k, LeO (impl_Move_normal.f k a0 a1) (impl_Move_normal.f (k + 1) a0 a1) := by
  intro a0 a1 k
  unfold impl_Move_normal.f
  repeat' first
      | (with_reducible exact impl_moveOf.mono _ _)
      | (with_reducible exact LeO.refl _)
      | (with_reducible exact LeO.none _)
      | (with_reducible refine LeO.ite ?_ ?_)
      | (with_reducible refine LeO.bind ?_ (fun _ => ?_))
      | exact impl_moveOf.mono _ _
      | exact LeO.none _
      | refine LeO.ite ?_ ?_
      | refine LeO.bind ?_ (fun _ => ?_)

def impl_Move_normal.e (k : Nat) : Refl.Ent G := ⟨78, [(.agg [.str, li])], .one (.agg [.str, li]), fun x => impl_Move_normal.f k x.1 x.2⟩
theorem impl_Move_normal.ok (k : Nat) : Refl.EntOK Tryz.prog (impl_Move_normal.e k) := Refl.ent_ok 1000000 k GC (fun k => [impl_Move_all.e k, impl_moveOf.e k]) (fun k => ⟨impl_Move_all.ok k, impl_moveOf.ok k, trivial⟩) Tryz.func78 (by kernel_rfl) [] (ps := []) (by kernel_rfl) trivial (fun x => by kernel_rfl)

/-! ### impl_NormalMove: function 32 -/

def impl_NormalMove.f (k : Nat) (a0_0 : ByteArray) (a0_1 : Int) : Option (ByteArray × Int × Bool) := (impl_IsMove.f k a0_0 a0_1).bind fun t203 => (if t203 = true then ((impl_Move_normal.f k a0_0 a0_1).bind fun bt204 => (some (bt204.1, bt204.2, true))) else (some ((⟨#[]⟩ : ByteArray), 0, false)))

theorem impl_NormalMove.mono : ∀ a0 a1 k, LeO (impl_NormalMove.f k a0 a1) (impl_NormalMove.f (k + 1) a0 a1) := by
  intro a0 a1 k
  unfold impl_NormalMove.f
  repeat' first
      | (with_reducible exact impl_IsMove.mono _ _ _)
      | (with_reducible exact impl_Move_normal.mono _ _ _)
      | (with_reducible exact LeO.refl _)
      | (with_reducible exact LeO.none _)
      | (with_reducible refine LeO.ite ?_ ?_)
      | (with_reducible refine LeO.bind ?_ (fun _ => ?_))
      | exact impl_IsMove.mono _ _ _
      | exact impl_Move_normal.mono _ _ _
      | exact LeO.none _
      | refine LeO.ite ?_ ?_
      | refine LeO.bind ?_ (fun _ => ?_)

def impl_NormalMove.e (k : Nat) : Refl.Ent G := ⟨32, [(.agg [.str, li])], .tup [(.agg [.str, li]), (.c .bool)], fun x => impl_NormalMove.f k x.1 x.2⟩
theorem impl_NormalMove.ok (k : Nat) : Refl.EntOK Tryz.prog (impl_NormalMove.e k) := Refl.ent_ok 1000000 k GC (fun k => [impl_IsMove.e k, impl_Move_normal.e k]) (fun k => ⟨impl_IsMove.ok k, impl_Move_normal.ok k, trivial⟩) Tryz.func32 (by kernel_rfl) [] (ps := []) (by kernel_rfl) trivial (fun x => by kernel_rfl)

/-! ### spec_l1In: function 70 -/

def spec_l1In.f (a0 : Int) (a1 : Int) (a2 : Int) : Option (Bool) := if a0 ≥ a1 then (some (decide (a0 ≤ a2))) else (some false)

def spec_l1In.e (k : Nat) : Refl.Ent G := ⟨70, [(.c li), (.c li), (.c li)], .one (.c .bool), fun x => spec_l1In.f x.1 x.2.1 x.2.2⟩
theorem spec_l1In.ok (k : Nat) : Refl.EntOK Tryz.prog (spec_l1In.e k) := Refl.ent_ok 1000000 k GC (fun k => []) (fun k => trivial) Tryz.func70 (by kernel_rfl) [] (ps := []) (by kernel_rfl) trivial (fun x => by kernel_rfl)

/-! ### spec_mvLetters: function 142 -/

def spec_mvLetters.f  : Option (ByteArray) := some (⟨#[117, 100, 108, 114, 102, 98]⟩ : ByteArray)

def spec_mvLetters.e (k : Nat) : Refl.Ent G := ⟨142, [], .one (.c .str), fun _ => spec_mvLetters.f ⟩
theorem spec_mvLetters.ok (k : Nat) : Refl.EntOK Tryz.prog (spec_mvLetters.e k) := Refl.ent_ok 1000000 k GC (fun k => []) (fun k => trivial) Tryz.func142 (by kernel_rfl) [] (ps := []) (by kernel_rfl) trivial (fun x => by kernel_rfl)

/-! ### spec_mvIndex: function 125 -/

def spec_mvIndex.l0 : Nat → Int → Int → Option (Int)
  | 0, _, _ => none
  | k + 1, x0, x3 => (spec_mvLetters.f).bind fun t206 => (if x3 < (t206.size : Int) then ((spec_mvLetters.f).bind fun t207 => (if 0 ≤ x3 then (if x3 < (t207.size : Int) then (if (bt t207 x3) = x0 then (some x3) else (spec_mvIndex.l0 k x0 (wrap64 (x3 + 1)))) else (none)) else (none))) else (some (-1)))

def spec_mvIndex.f (k : Nat) (a0 : Int) : Option (Int) := spec_mvIndex.l0 k a0 0

theorem spec_mvIndex.mono_l : ∀ k, (∀ y0 y1, LeO (spec_mvIndex.l0 k y0 y1) (spec_mvIndex.l0 (k + 1) y0 y1))
  | 0 => fun _ _ r h => by simp [spec_mvIndex.l0] at h
  | k + 1 => by
    have ih0 := spec_mvIndex.mono_l k
    · intro y0 y1
      unfold spec_mvIndex.l0
      repeat' first
      | (with_reducible exact ih0 _ _)
      | (with_reducible exact LeO.refl _)
      | (with_reducible exact LeO.none _)
      | (with_reducible refine LeO.ite ?_ ?_)
      | (with_reducible refine LeO.bind ?_ (fun _ => ?_))
      | exact ih0 _ _
      | exact LeO.none _
      | refine LeO.ite ?_ ?_
      | refine LeO.bind ?_ (fun _ => ?_)

theorem spec_mvIndex.mono : ∀ a0 k, LeO (spec_mvIndex.f k a0) (spec_mvIndex.f (k + 1) a0) := by
  intro a0 k
  have ih0 := spec_mvIndex.mono_l k
  unfold spec_mvIndex.f
  repeat' first
      | (with_reducible exact ih0 _ _)
      | (with_reducible exact LeO.refl _)
      | (with_reducible exact LeO.none _)
      | (with_reducible refine LeO.ite ?_ ?_)
      | (with_reducible refine LeO.bind ?_ (fun _ => ?_))
      | exact ih0 _ _
      | exact LeO.none _
      | refine LeO.ite ?_ ?_
      | refine LeO.bind ?_ (fun _ => ?_)

def spec_mvIndex.e (k : Nat) : Refl.Ent G := ⟨125, [(.c (.int .u8))], .one (.c li), fun x => spec_mvIndex.f k x⟩
def spec_mvIndex.pl0 : Refl.Pn G (Refl.PT G (spec_mvIndex.e 0).ol) := ⟨true, 0, ⟨[(0, .v (.c (.int .u8))), (3, .v (.c li)), (2, .k (Value.int IntKind.i64 0))], []⟩, fun k x => spec_mvIndex.l0 k x.1 x.2⟩
theorem spec_mvIndex.ok (k : Nat) : Refl.EntOK Tryz.prog (spec_mvIndex.e k) := Refl.ent_ok 1000000 k GC (fun k => [spec_mvLetters.e k]) (fun k => ⟨spec_mvLetters.ok k, trivial⟩) Tryz.func125 (by kernel_rfl) [spec_mvIndex.pl0] (ps := [spec_mvIndex.pl0]) (by kernel_rfl) ⟨⟨fun x => by kernel_rfl, fun k x => by kernel_rfl⟩, trivial⟩ (fun x => by kernel_rfl)

/-! ### spec_mvSteps: function 109 -/

def spec_mvSteps.l0 : Nat → ByteArray → Int → Option (Bool)
  | 0, _, _ => none
  | k + 1, x0, x3 => if x3 < (x0.size : Int) then (if 0 ≤ x3 then (if x3 < (x0.size : Int) then ((spec_mvIndex.f k (bt x0 x3)).bind fun t208 => (if t208 < 0 then (some false) else (spec_mvSteps.l0 k x0 (wrap64 (x3 + 1))))) else (none)) else (none)) else (some true)

def spec_mvSteps.f (k : Nat) (a0 : ByteArray) : Option (Bool) := spec_mvSteps.l0 k a0 0

theorem spec_mvSteps.mono_l : ∀ k, (∀ y0 y1, LeO (spec_mvSteps.l0 k y0 y1) (spec_mvSteps.l0 (k + 1) y0 y1))
  | 0 => fun _ _ r h => by simp [spec_mvSteps.l0] at h
  | k + 1 => by
    have ih0 := spec_mvSteps.mono_l k
    · intro y0 y1
      unfold spec_mvSteps.l0
      repeat' first
      | (with_reducible exact ih0 _ _)
      | (with_reducible exact spec_mvIndex.mono _ _)
      | (with_reducible exact LeO.refl _)
      | (with_reducible exact LeO.none _)
      | (with_reducible refine LeO.ite ?_ ?_)
      | (with_reducible refine LeO.bind ?_ (fun _ => ?_))
      | exact ih0 _ _
      | exact spec_mvIndex.mono _ _
      | exact LeO.none _
      | refine LeO.ite ?_ ?_
      | refine LeO.bind ?_ (fun _ => ?_)

theorem spec_mvSteps.mono : ∀ a0 k, LeO (spec_mvSteps.f k a0) (spec_mvSteps.f (k + 1) a0) := by
  intro a0 k
  have ih0 := spec_mvSteps.mono_l k
  unfold spec_mvSteps.f
  repeat' first
      | (with_reducible exact ih0 _ _)
      | (with_reducible exact spec_mvIndex.mono _ _)
      | (with_reducible exact LeO.refl _)
      | (with_reducible exact LeO.none _)
      | (with_reducible refine LeO.ite ?_ ?_)
      | (with_reducible refine LeO.bind ?_ (fun _ => ?_))
      | exact ih0 _ _
      | exact spec_mvIndex.mono _ _
      | exact LeO.none _
      | refine LeO.ite ?_ ?_
      | refine LeO.bind ?_ (fun _ => ?_)

def spec_mvSteps.e (k : Nat) : Refl.Ent G := ⟨109, [(.c .str)], .one (.c .bool), fun x => spec_mvSteps.f k x⟩
def spec_mvSteps.pl0 : Refl.Pn G (Refl.PT G (spec_mvSteps.e 0).ol) := ⟨true, 0, ⟨[(0, .v (.c .str)), (3, .v (.c li)), (2, .k (Value.bool false))], []⟩, fun k x => spec_mvSteps.l0 k x.1 x.2⟩
theorem spec_mvSteps.ok (k : Nat) : Refl.EntOK Tryz.prog (spec_mvSteps.e k) := Refl.ent_ok 1000000 k GC (fun k => [spec_mvIndex.e k]) (fun k => ⟨spec_mvIndex.ok k, trivial⟩) Tryz.func109 (by kernel_rfl) [spec_mvSteps.pl0] (ps := [spec_mvSteps.pl0]) (by kernel_rfl) ⟨⟨fun x => by kernel_rfl, fun k x => by kernel_rfl⟩, trivial⟩ (fun x => by kernel_rfl)

/-! ### spec_mvGood: function 79 -/

def spec_mvGood.f (k : Nat) (a0_0 : ByteArray) (a0_1 : Int) : Option (Bool) := if (a0_0.size : Int) ≤ 6 then ((spec_mvSteps.f k a0_0).bind fun t210 => (if t210 = true then ((spec_l1In.f a0_1 1 3).bind fun t211 => (if t211 = true then (if a0_0.toList = ([] : List UInt8) then (some (a0_1 == 1)) else (some true)) else (some false))) else (some false))) else (some false)

theorem spec_mvGood.mono : ∀ a0 a1 k, LeO (spec_mvGood.f k a0 a1) (spec_mvGood.f (k + 1) a0 a1) := by
  intro a0 a1 k
  unfold spec_mvGood.f
  repeat' first
      | (with_reducible exact spec_mvSteps.mono _ _)
      | (with_reducible exact LeO.refl _)
      | (with_reducible exact LeO.none _)
      | (with_reducible refine LeO.ite ?_ ?_)
      | (with_reducible refine LeO.bind ?_ (fun _ => ?_))
      | exact spec_mvSteps.mono _ _
      | exact LeO.none _
      | refine LeO.ite ?_ ?_
      | refine LeO.bind ?_ (fun _ => ?_)

def spec_mvGood.e (k : Nat) : Refl.Ent G := ⟨79, [(.agg [.str, li])], .one (.c .bool), fun x => spec_mvGood.f k x.1 x.2⟩
theorem spec_mvGood.ok (k : Nat) : Refl.EntOK Tryz.prog (spec_mvGood.e k) := Refl.ent_ok 1000000 k GC (fun k => [spec_mvSteps.e k, spec_l1In.e k]) (fun k => ⟨spec_mvSteps.ok k, spec_l1In.ok k, trivial⟩) Tryz.func79 (by kernel_rfl) [] (ps := []) (by kernel_rfl) trivial (fun x => by kernel_rfl)

/-! ### spec_mvTimes: function 112 -/

def spec_mvTimes.l0 : Nat → ByteArray → Int → ByteArray → Option (ByteArray)
  | 0, _, _, _ => none
  | k + 1, x0, x1, x5 => if x1 > 0 then (if x5.size + x0.size ≤ 9223372036854775807 then (spec_mvTimes.l0 k x0 (wrap64 (x1 - 1)) (x5 ++ x0)) else (none)) else (some x5)

def spec_mvTimes.f (k : Nat) (a0 : ByteArray) (a1 : Int) : Option (ByteArray) := spec_mvTimes.l0 k a0 a1 (⟨#[]⟩ : ByteArray)

theorem spec_mvTimes.mono_l : ∀ k, (∀ y0 y1 y2, LeO (spec_mvTimes.l0 k y0 y1 y2) (spec_mvTimes.l0 (k + 1) y0 y1 y2))
  | 0 => fun _ _ _ r h => by simp [spec_mvTimes.l0] at h
  | k + 1 => by
    have ih0 := spec_mvTimes.mono_l k
    · intro y0 y1 y2
      unfold spec_mvTimes.l0
      repeat' first
      | (with_reducible exact ih0 _ _ _)
      | (with_reducible exact LeO.refl _)
      | (with_reducible exact LeO.none _)
      | (with_reducible refine LeO.ite ?_ ?_)
      | (with_reducible refine LeO.bind ?_ (fun _ => ?_))
      | exact ih0 _ _ _
      | exact LeO.none _
      | refine LeO.ite ?_ ?_
      | refine LeO.bind ?_ (fun _ => ?_)

theorem spec_mvTimes.mono : ∀ a0 a1 k, LeO (spec_mvTimes.f k a0 a1) (spec_mvTimes.f (k + 1) a0 a1) := by
  intro a0 a1 k
  have ih0 := spec_mvTimes.mono_l k
  unfold spec_mvTimes.f
  repeat' first
      | (with_reducible exact ih0 _ _ _)
      | (with_reducible exact LeO.refl _)
      | (with_reducible exact LeO.none _)
      | (with_reducible refine LeO.ite ?_ ?_)
      | (with_reducible refine LeO.bind ?_ (fun _ => ?_))
      | exact ih0 _ _ _
      | exact LeO.none _
      | refine LeO.ite ?_ ?_
      | refine LeO.bind ?_ (fun _ => ?_)

def spec_mvTimes.e (k : Nat) : Refl.Ent G := ⟨112, [(.c .str), (.c li)], .one (.c .str), fun x => spec_mvTimes.f k x.1 x.2⟩
def spec_mvTimes.pl0 : Refl.Pn G (Refl.PT G (spec_mvTimes.e 0).ol) := ⟨true, 0, ⟨[(0, .v (.c .str)), (1, .v (.c li)), (5, .v (.c .str))], []⟩, fun k x => spec_mvTimes.l0 k x.1 x.2.1 x.2.2⟩
theorem spec_mvTimes.ok (k : Nat) : Refl.EntOK Tryz.prog (spec_mvTimes.e k) := Refl.ent_ok 1000000 k GC (fun k => []) (fun k => trivial) Tryz.func112 (by kernel_rfl) [spec_mvTimes.pl0] (ps := [spec_mvTimes.pl0]) (by kernel_rfl) ⟨⟨fun x => by kernel_rfl, fun k x => by kernel_rfl⟩, trivial⟩ (fun x => by kernel_rfl)

/-! ### spec_mvAll: function 82 -/

def spec_mvAll.f (k : Nat) (a0_0 : ByteArray) (a0_1 : Int) : Option (ByteArray) := (spec_mvTimes.f k a0_0 a0_1).bind fun t213 => (some t213)

theorem spec_mvAll.mono : ∀ a0 a1 k, LeO (spec_mvAll.f k a0 a1) (spec_mvAll.f (k + 1) a0 a1) := by
  intro a0 a1 k
  unfold spec_mvAll.f
  repeat' first
      | (with_reducible exact spec_mvTimes.mono _ _ _)
      | (with_reducible exact LeO.refl _)
      | (with_reducible exact LeO.none _)
      | (with_reducible refine LeO.ite ?_ ?_)
      | (with_reducible refine LeO.bind ?_ (fun _ => ?_))
      | exact spec_mvTimes.mono _ _ _
      | exact LeO.none _
      | refine LeO.ite ?_ ?_
      | refine LeO.bind ?_ (fun _ => ?_)

def spec_mvAll.e (k : Nat) : Refl.Ent G := ⟨82, [(.agg [.str, li])], .one (.c .str), fun x => spec_mvAll.f k x.1 x.2⟩
theorem spec_mvAll.ok (k : Nat) : Refl.EntOK Tryz.prog (spec_mvAll.e k) := Refl.ent_ok 1000000 k GC (fun k => [spec_mvTimes.e k]) (fun k => ⟨spec_mvTimes.ok k, trivial⟩) Tryz.func82 (by kernel_rfl) [] (ps := []) (by kernel_rfl) trivial (fun x => by kernel_rfl)

/-! ### spec_mvOf: function 110 -/

mutual
def spec_mvOf.l0 : Nat → ByteArray → Int → Option (ByteArray × Int × Bool)
  | 0, _, _ => none
  | k + 1, x0, x4 => if x4 ≤ 6 then (spec_mvOf.j1 k x0 x4 (decide (x4 ≤ (x0.size : Int)))) else (spec_mvOf.j1 k x0 x4 false)
def spec_mvOf.j1 : Nat → ByteArray → Int → Bool → Option (ByteArray × Int × Bool)
  | 0, _, _, _ => none
  | k + 1, x0, x4, x16 => if x16 = true then (spec_mvOf.l1 k x0 x4 1) else (some ((⟨#[]⟩ : ByteArray), 0, false))
def spec_mvOf.l1 : Nat → ByteArray → Int → Int → Option (ByteArray × Int × Bool)
  | 0, _, _, _ => none
  | k + 1, x0, x4, x5 => if x5 ≤ 3 then (if 0 ≤ x4 then (if x4 ≤ (x0.size : Int) then ((spec_mvTimes.f k (x0.extract 0 (x4 : Int).toNat) x5).bind fun t215 => (if t215.toList = x0.toList then (if 0 ≤ x4 then (if x4 ≤ (x0.size : Int) then (some (x0.extract 0 (x4 : Int).toNat, x5, true)) else (none)) else (none)) else (spec_mvOf.l1 k x0 x4 (wrap64 (x5 + 1))))) else (none)) else (none)) else (spec_mvOf.l0 k x0 (wrap64 (x4 + 1)))
end

def spec_mvOf.f (k : Nat) (a0 : ByteArray) : Option (ByteArray × Int × Bool) := if a0.toList = ([] : List UInt8) then (some ((⟨#[]⟩ : ByteArray), 1, true)) else (spec_mvOf.l0 k a0 1)

theorem spec_mvOf.mono_l : ∀ k, (∀ y0 y1, LeO (spec_mvOf.l0 k y0 y1) (spec_mvOf.l0 (k + 1) y0 y1)) ∧ (∀ y0 y1 y2, LeO (spec_mvOf.j1 k y0 y1 y2) (spec_mvOf.j1 (k + 1) y0 y1 y2)) ∧ (∀ y0 y1 y2, LeO (spec_mvOf.l1 k y0 y1 y2) (spec_mvOf.l1 (k + 1) y0 y1 y2))
  | 0 => ⟨fun _ _ r h => by simp [spec_mvOf.l0] at h, fun _ _ _ r h => by simp [spec_mvOf.j1] at h, fun _ _ _ r h => by simp [spec_mvOf.l1] at h⟩
  | k + 1 => by
    obtain ⟨ih0, ih1, ih2⟩ := spec_mvOf.mono_l k
    refine ⟨?_, ?_, ?_⟩
    · intro y0 y1
      unfold spec_mvOf.l0
      repeat' first
      | (with_reducible exact ih0 _ _)
      | (with_reducible exact ih1 _ _ _)
      | (with_reducible exact ih2 _ _ _)
      | (with_reducible exact spec_mvTimes.mono _ _ _)
      | (with_reducible exact LeO.refl _)
      | (with_reducible exact LeO.none _)
      | (with_reducible refine LeO.ite ?_ ?_)
      | (with_reducible refine LeO.bind ?_ (fun _ => ?_))
      | exact ih0 _ _
      | exact ih1 _ _ _
      | exact ih2 _ _ _
      | exact spec_mvTimes.mono _ _ _
      | exact LeO.none _
      | refine LeO.ite ?_ ?_
      | refine LeO.bind ?_ (fun _ => ?_)
    · intro y0 y1 y2
      unfold spec_mvOf.j1
      repeat' first
      | (with_reducible exact ih0 _ _)
      | (with_reducible exact ih1 _ _ _)
      | (with_reducible exact ih2 _ _ _)
      | (with_reducible exact spec_mvTimes.mono _ _ _)
      | (with_reducible exact LeO.refl _)
      | (with_reducible exact LeO.none _)
      | (with_reducible refine LeO.ite ?_ ?_)
      | (with_reducible refine LeO.bind ?_ (fun _ => ?_))
      | exact ih0 _ _
      | exact ih1 _ _ _
      | exact ih2 _ _ _
      | exact spec_mvTimes.mono _ _ _
      | exact LeO.none _
      | refine LeO.ite ?_ ?_
      | refine LeO.bind ?_ (fun _ => ?_)
    · intro y0 y1 y2
      unfold spec_mvOf.l1
      repeat' first
      | (with_reducible exact ih0 _ _)
      | (with_reducible exact ih1 _ _ _)
      | (with_reducible exact ih2 _ _ _)
      | (with_reducible exact spec_mvTimes.mono _ _ _)
      | (with_reducible exact LeO.refl _)
      | (with_reducible exact LeO.none _)
      | (with_reducible refine LeO.ite ?_ ?_)
      | (with_reducible refine LeO.bind ?_ (fun _ => ?_))
      | exact ih0 _ _
      | exact ih1 _ _ _
      | exact ih2 _ _ _
      | exact spec_mvTimes.mono _ _ _
      | exact LeO.none _
      | refine LeO.ite ?_ ?_
      | refine LeO.bind ?_ (fun _ => ?_)

theorem spec_mvOf.mono : ∀ a0 k, LeO (spec_mvOf.f k a0) (spec_mvOf.f (k + 1) a0) := by
  intro a0 k
  obtain ⟨ih0, ih1, ih2⟩ := spec_mvOf.mono_l k
  unfold spec_mvOf.f
  repeat' first
      | (with_reducible exact ih0 _ _)
      | (with_reducible exact ih1 _ _ _)
      | (with_reducible exact ih2 _ _ _)
      | (with_reducible exact spec_mvTimes.mono _ _ _)
      | (with_reducible exact LeO.refl _)
      | (with_reducible exact LeO.none _)
      | (with_reducible refine LeO.ite ?_ ?_)
      | (with_reducible refine LeO.bind ?_ (fun _ => ?_))
      | exact ih0 _ _
      | exact ih1 _ _ _
      | exact ih2 _ _ _
      | exact spec_mvTimes.mono _ _ _
      | exact LeO.none _
      | refine LeO.ite ?_ ?_
      | refine LeO.bind ?_ (fun _ => ?_)

def spec_mvOf.e (k : Nat) : Refl.Ent G := ⟨110, [(.c .str)], .tup [(.agg [.str, li]), (.c .bool)], fun x => spec_mvOf.f k x⟩
def spec_mvOf.pl0 : Refl.Pn G (Refl.PT G (spec_mvOf.e 0).ol) := ⟨true, 0, ⟨[(0, .v (.c .str)), (4, .v (.c li)), (2, .box 2 0), (3, .k (Value.bool false))], [(2, 51, gL3)]⟩, fun k x => spec_mvOf.l0 k x.1 x.2⟩
def spec_mvOf.pj1 : Refl.Pn G (Refl.PT G (spec_mvOf.e 0).ol) := ⟨false, 1000004, ⟨[(0, .v (.c .str)), (4, .v (.c li)), (16, .v (.c .bool)), (2, .box 2 0), (3, .k (Value.bool false))], [(2, 51, gL3)]⟩, fun k x => spec_mvOf.j1 k x.1 x.2.1 x.2.2⟩
def spec_mvOf.pl1 : Refl.Pn G (Refl.PT G (spec_mvOf.e 0).ol) := ⟨true, 2, ⟨[(0, .v (.c .str)), (4, .v (.c li)), (5, .v (.c li)), (2, .box 2 0), (3, .k (Value.bool false))], [(2, 51, gL3)]⟩, fun k x => spec_mvOf.l1 k x.1 x.2.1 x.2.2⟩
theorem spec_mvOf.ok (k : Nat) : Refl.EntOK Tryz.prog (spec_mvOf.e k) := Refl.ent_ok 1000000 k GC (fun k => [spec_mvTimes.e k]) (fun k => ⟨spec_mvTimes.ok k, trivial⟩) Tryz.func110 (by kernel_rfl) [spec_mvOf.pl0, spec_mvOf.pj1, spec_mvOf.pl1] (ps := [spec_mvOf.pl0, spec_mvOf.pj1, spec_mvOf.pl1]) (by kernel_rfl) ⟨⟨fun x => by kernel_rfl, fun k x => by kernel_rfl⟩, ⟨fun x => by kernel_rfl, fun k x => by kernel_rfl⟩, ⟨fun x => by kernel_rfl, fun k x => by kernel_rfl⟩, trivial⟩ (fun x => by kernel_rfl)

/-! ### spec_mvNormal: function 80 -/

def spec_mvNormal.f (k : Nat) (a0_0 : ByteArray) (a0_1 : Int) : Option (ByteArray × Int) := (spec_mvAll.f k a0_0 a0_1).bind fun t218 => ((spec_mvOf.f k t218).bind fun bt219 => (some (bt219.1, bt219.2.1)))

theorem spec_mvNormal.mono : ∀ a0 a1 k, LeO (spec_mvNormal.f k a0 a1) (spec_mvNormal.f (k + 1) a0 a1) := by
  intro a0 a1 k
  unfold spec_mvNormal.f
  repeat' first
      | (with_reducible exact spec_mvAll.mono _ _ _)
      | (with_reducible exact spec_mvOf.mono _ _)
      | (with_reducible exact LeO.refl _)
      | (with_reducible exact LeO.none _)
      | (with_reducible refine LeO.ite ?_ ?_)
      | (with_reducible refine LeO.bind ?_ (fun _ => ?_))
      | exact spec_mvAll.mono _ _ _
      | exact spec_mvOf.mono _ _
      | exact LeO.none _
      | refine LeO.ite ?_ ?_
      | refine LeO.bind ?_ (fun _ => ?_)

def spec_mvNormal.e (k : Nat) : Refl.Ent G := ⟨80, [(.agg [.str, li])], .one (.agg [.str, li]), fun x => spec_mvNormal.f k x.1 x.2⟩
theorem spec_mvNormal.ok (k : Nat) : Refl.EntOK Tryz.prog (spec_mvNormal.e k) := Refl.ent_ok 1000000 k GC (fun k => [spec_mvAll.e k, spec_mvOf.e k]) (fun k => ⟨spec_mvAll.ok k, spec_mvOf.ok k, trivial⟩) Tryz.func80 (by kernel_rfl) [] (ps := []) (by kernel_rfl) trivial (fun x => by kernel_rfl)

/-! ### spec_NormalMove: function 33 -/

def spec_NormalMove.f (k : Nat) (a0_0 : ByteArray) (a0_1 : Int) : Option (ByteArray × Int × Bool) := (spec_mvGood.f k a0_0 a0_1).bind fun t225 => (if t225 = true then ((spec_mvNormal.f k a0_0 a0_1).bind fun bt226 => (some (bt226.1, bt226.2, true))) else (some ((⟨#[]⟩ : ByteArray), 0, false)))

theorem spec_NormalMove.mono : ∀ a0 a1 k, LeO (spec_NormalMove.f k a0 a1) (spec_NormalMove.f (k + 1) a0 a1) := by
  intro a0 a1 k
  unfold spec_NormalMove.f
  repeat' first
      | (with_reducible exact spec_mvGood.mono _ _ _)
      | (with_reducible exact spec_mvNormal.mono _ _ _)
      | (with_reducible exact LeO.refl _)
      | (with_reducible exact LeO.none _)
      | (with_reducible refine LeO.ite ?_ ?_)
      | (with_reducible refine LeO.bind ?_ (fun _ => ?_))
      | exact spec_mvGood.mono _ _ _
      | exact spec_mvNormal.mono _ _ _
      | exact LeO.none _
      | refine LeO.ite ?_ ?_
      | refine LeO.bind ?_ (fun _ => ?_)

def spec_NormalMove.e (k : Nat) : Refl.Ent G := ⟨33, [(.agg [.str, li])], .tup [(.agg [.str, li]), (.c .bool)], fun x => spec_NormalMove.f k x.1 x.2⟩
theorem spec_NormalMove.ok (k : Nat) : Refl.EntOK Tryz.prog (spec_NormalMove.e k) := Refl.ent_ok 1000000 k GC (fun k => [spec_mvGood.e k, spec_mvNormal.e k]) (fun k => ⟨spec_mvGood.ok k, spec_mvNormal.ok k, trivial⟩) Tryz.func33 (by kernel_rfl) [] (ps := []) (by kernel_rfl) trivial (fun x => by kernel_rfl)

/-! ### impl_AllSteps: function 34 -/

def impl_AllSteps.f (k : Nat) (a0_0 : ByteArray) (a0_1 : Int) : Option (ByteArray × Bool) := (impl_IsMove.f k a0_0 a0_1).bind fun t229 => (if t229 = true then ((impl_Move_all.f a0_0 a0_1).bind fun t230 => (some (t230, true))) else (some ((⟨#[]⟩ : ByteArray), false)))

theorem impl_AllSteps.mono : ∀ a0 a1 k, LeO (impl_AllSteps.f k a0 a1) (impl_AllSteps.f (k + 1) a0 a1) := by
  intro a0 a1 k
  unfold impl_AllSteps.f
  repeat' first
      | (with_reducible exact impl_IsMove.mono _ _ _)
      | (with_reducible exact LeO.refl _)
      | (with_reducible exact LeO.none _)
      | (with_reducible refine LeO.ite ?_ ?_)
      | (with_reducible refine LeO.bind ?_ (fun _ => ?_))
      | exact impl_IsMove.mono _ _ _
      | exact LeO.none _
      | refine LeO.ite ?_ ?_
      | refine LeO.bind ?_ (fun _ => ?_)

def impl_AllSteps.e (k : Nat) : Refl.Ent G := ⟨34, [(.agg [.str, li])], .tup [(.c .str), (.c .bool)], fun x => impl_AllSteps.f k x.1 x.2⟩
theorem impl_AllSteps.ok (k : Nat) : Refl.EntOK Tryz.prog (impl_AllSteps.e k) := Refl.ent_ok 1000000 k GC (fun k => [impl_IsMove.e k, impl_Move_all.e k]) (fun k => ⟨impl_IsMove.ok k, impl_Move_all.ok k, trivial⟩) Tryz.func34 (by kernel_rfl) [] (ps := []) (by kernel_rfl) trivial (fun x => by kernel_rfl)

/-! ### spec_AllSteps: function 35 -/

def spec_AllSteps.f (k : Nat) (a0_0 : ByteArray) (a0_1 : Int) : Option (ByteArray × Bool) := (spec_mvGood.f k a0_0 a0_1).bind fun t232 => (if t232 = true then ((spec_mvAll.f k a0_0 a0_1).bind fun t233 => (some (t233, true))) else (some ((⟨#[]⟩ : ByteArray), false)))

theorem spec_AllSteps.mono : ∀ a0 a1 k, LeO (spec_AllSteps.f k a0 a1) (spec_AllSteps.f (k + 1) a0 a1) := by
  intro a0 a1 k
  unfold spec_AllSteps.f
  repeat' first
      | (with_reducible exact spec_mvAll.mono _ _ _)
      | (with_reducible exact spec_mvGood.mono _ _ _)
      | (with_reducible exact LeO.refl _)
      | (with_reducible exact LeO.none _)
      | (with_reducible refine LeO.ite ?_ ?_)
      | (with_reducible refine LeO.bind ?_ (fun _ => ?_))
      | exact spec_mvAll.mono _ _ _
      | exact spec_mvGood.mono _ _ _
      | exact LeO.none _
      | refine LeO.ite ?_ ?_
      | refine LeO.bind ?_ (fun _ => ?_)

def spec_AllSteps.e (k : Nat) : Refl.Ent G := ⟨35, [(.agg [.str, li])], .tup [(.c .str), (.c .bool)], fun x => spec_AllSteps.f k x.1 x.2⟩
theorem spec_AllSteps.ok (k : Nat) : Refl.EntOK Tryz.prog (spec_AllSteps.e k) := Refl.ent_ok 1000000 k GC (fun k => [spec_mvGood.e k, spec_mvAll.e k]) (fun k => ⟨spec_mvGood.ok k, spec_mvAll.ok k, trivial⟩) Tryz.func35 (by kernel_rfl) [] (ps := []) (by kernel_rfl) trivial (fun x => by kernel_rfl)

/-! ### strconv_Itoa: function 48 -/

/-- The digits, and the pairs of digits, as the library lays them. -/
def itA : ByteArray := ⟨#[48, 49, 50, 51, 52, 53, 54, 55, 56, 57, 97, 98, 99, 100, 101, 102, 103, 104, 105, 106, 107, 108, 109, 110, 111, 112, 113, 114, 115, 116, 117, 118, 119, 120, 121, 122]⟩
def itB : ByteArray := ⟨#[48, 48, 48, 49, 48, 50, 48, 51, 48, 52, 48, 53, 48, 54, 48, 55, 48, 56, 48, 57, 49, 48, 49, 49, 49, 50, 49, 51, 49, 52, 49, 53, 49, 54, 49, 55, 49, 56, 49, 57, 50, 48, 50, 49, 50, 50, 50, 51, 50, 52, 50, 53, 50, 54, 50, 55, 50, 56, 50, 57, 51, 48, 51, 49, 51, 50, 51, 51, 51, 52, 51, 53, 51, 54, 51, 55, 51, 56, 51, 57, 52, 48, 52, 49, 52, 50, 52, 51, 52, 52, 52, 53, 52, 54, 52, 55, 52, 56, 52, 57, 53, 48, 53, 49, 53, 50, 53, 51, 53, 52, 53, 53, 53, 54, 53, 55, 53, 56, 53, 57, 54, 48, 54, 49, 54, 50, 54, 51, 54, 52, 54, 53, 54, 54, 54, 55, 54, 56, 54, 57, 55, 48, 55, 49, 55, 50, 55, 51, 55, 52, 55, 53, 55, 54, 55, 55, 55, 56, 55, 57, 56, 48, 56, 49, 56, 50, 56, 51, 56, 52, 56, 53, 56, 54, 56, 55, 56, 56, 56, 57, 57, 48, 57, 49, 57, 50, 57, 51, 57, 52, 57, 53, 57, 54, 57, 55, 57, 56, 57, 57]⟩
/-- The text of a number below 100. -/
def itT (n : Int) : ByteArray := if n < 10 then itA.extract n.toNat (n + 1).toNat else itB.extract (n * 2).toNat (n * 2 + 2).toNat
set_option maxHeartbeats 4000000 in
set_option maxRecDepth 100000 in
theorem itSmall (n : Int) (w : World) (h0 : 0 ≤ n) (h1 : n < 100) : Calls Tryz.prog 136 #[.int .i64 n] w fun e w' => e = .returned (.string (itT n)) ∧ Drawn0 w w' := by
  have e1 : IntKind.i64.wrap (n + 1) = n + 1 := by simp [IntKind.wrap, IntKind.bits, IntKind.signed]; omega
  have e2 : IntKind.i64.wrap (n * 2) = n * 2 := by simp [IntKind.wrap, IntKind.bits, IntKind.signed]; omega
  have e3 : IntKind.i64.wrap (n * 2 + 2) = n * 2 + 2 := by simp [IntKind.wrap, IntKind.bits, IntKind.signed]; omega
  by_cases h : n < 10
  · have c0 : decide (n < 10) = true := decide_eq_true h
    have c1 : itT n = itA.extract n.toNat (n + 1).toNat := if_pos h
    have b0 : (0 ≤ n) = True := eq_true h0
    have b1 : (n ≤ n + 1) = True := eq_true (by omega)
    have b2 : (n + 1 ≤ 36) = True := eq_true (by omega)
    have b3 : decide (0 ≤ n) = true := decide_eq_true h0
    have b4 : decide (n ≤ n + 1) = true := decide_eq_true (by omega)
    have b5 : decide (n + 1 ≤ 36) = true := decide_eq_true (by omega)
    rw [c1]
    clear h c1 h0 h1
    go_enter Tryz.func136, Tryz.ntmps136
    go_wp2
    go_ret
    exact ⟨by first | rfl | (simp [itA]; done), by repeat (first | exact Drawn0.refl _ | apply Drawn0.step)⟩
  · have c0 : decide (n < 10) = false := decide_eq_false h
    have c1 : itT n = itB.extract (n * 2).toNat (n * 2 + 2).toNat := if_neg h
    have b0 : (0 ≤ n * 2) = True := eq_true (by omega)
    have b1 : (n * 2 ≤ n * 2 + 2) = True := eq_true (by omega)
    have b2 : (n * 2 + 2 ≤ 200) = True := eq_true (by omega)
    have b3 : decide (0 ≤ n * 2) = true := decide_eq_true (by omega)
    have b4 : decide (n * 2 ≤ n * 2 + 2) = true := decide_eq_true (by omega)
    have b5 : decide (n * 2 + 2 ≤ 200) = true := decide_eq_true (by omega)
    rw [c1]
    clear h c1 h0 h1
    go_enter Tryz.func136, Tryz.ntmps136
    go_wp2
    go_ret
    exact ⟨by first | rfl | (simp [itB]; done), by repeat (first | exact Drawn0.refl _ | apply Drawn0.step)⟩
set_option maxHeartbeats 4000000 in
set_option maxRecDepth 100000 in
theorem itFormat (n : Int) (w : World) (h0 : 0 ≤ n) (h1 : n < 100) : Calls Tryz.prog 119 #[.int .i64 n, .int .i64 10] w fun e w' => e = .returned (.string (itT n)) ∧ Drawn0 w w' := by
  have HS := Aside0.mk (fun W => itSmall n W h0 h1)
  have e1 : IntKind.i64.wrap n = n := by simp [IntKind.wrap, IntKind.bits, IntKind.signed]; omega
  have c0 : decide (0 ≤ n) = true := decide_eq_true h0
  have c1 : decide (n < 100) = true := decide_eq_true h1
  clear h0 h1
  go_enter Tryz.func119, Tryz.ntmps119
  go_wp2_with (go_at_call 136; refine (HS.out _).mono ?_; rintro e wq ⟨rfl, ⟨nd, rfl⟩⟩)
  go_ret
  exact ⟨by first | rfl | (simp; done), by repeat (first | exact Drawn0.refl _ | apply Drawn0.step)⟩
set_option maxHeartbeats 4000000 in
set_option maxRecDepth 100000 in
theorem itIn (n : Int) (w : World) (h0 : 0 ≤ n) (h1 : n < 100) : Calls Tryz.prog 97 #[.int .i64 n] w fun e w' => e = .returned (.string (itT n)) ∧ Drawn0 w w' := by
  have HS := Aside0.mk (fun W => itFormat n W h0 h1)
  have e1 : IntKind.i64.wrap n = n := by simp [IntKind.wrap, IntKind.bits, IntKind.signed]; omega
  clear h0 h1
  go_enter Tryz.func97, Tryz.ntmps97
  go_wp2_with (go_at_call 119; refine (HS.out _).mono ?_; rintro e wq ⟨rfl, ⟨nd, rfl⟩⟩)
  go_ret
  exact ⟨by first | rfl | (simp; done), by repeat (first | exact Drawn0.refl _ | apply Drawn0.step)⟩
def strconv_Itoa.f (a0 : Int) : Option ByteArray := if 0 ≤ a0 ∧ a0 < 100 then some (itT a0) else none
set_option maxHeartbeats 4000000 in
set_option maxRecDepth 100000 in
theorem strconv_Itoa.calls (a0 : Int) (r : ByteArray) (w : World) (h : strconv_Itoa.f a0 = some r) : Calls Tryz.prog 48 #[.int .i64 a0] w fun e w' => e = .returned (.string r) ∧ Drawn0 w w' := by
  unfold strconv_Itoa.f at h
  by_cases hn : 0 ≤ a0 ∧ a0 < 100
  · rw [if_pos hn] at h
    obtain rfl := Option.some.inj h
    have HS := Aside0.mk (fun W => itIn a0 W hn.1 hn.2)
    clear h hn
    go_enter Tryz.func48, Tryz.ntmps48
    go_wp2_with (go_at_call 97; refine (HS.out _).mono ?_; rintro e wq ⟨rfl, ⟨nd, rfl⟩⟩)
    go_ret
    exact ⟨by first | rfl | (simp; done), by repeat (first | exact Drawn0.refl _ | apply Drawn0.step)⟩
  · rw [if_neg hn] at h; exact absurd h (by simp)

def strconv_Itoa.e (k : Nat) : Refl.Ent G := ⟨48, [(.c li)], .one (.c .str), fun x => strconv_Itoa.f x⟩
theorem strconv_Itoa.ok (k : Nat) : Refl.EntOK Tryz.prog (strconv_Itoa.e k) := Refl.entOK_hand Tryz.func48 (by kernel_rfl) (fun x => by kernel_rfl) (fun y => ⟨by kernel_rfl, by kernel_rfl, by kernel_rfl, by kernel_rfl⟩) (fun x y h w => (strconv_Itoa.calls x y w h).mono fun e w' hh => ⟨hh.1, hh.2.below⟩)

/-! ### impl_Move_text: function 83 -/

def impl_Move_text.f (a0_0 : ByteArray) (a0_1 : Int) : Option (ByteArray) := if a0_0.toList = ([] : List UInt8) then (some (⟨#[45]⟩ : ByteArray)) else (if a0_1 = 1 then (some a0_0) else (if a0_0.size + 1 ≤ 9223372036854775807 then ((strconv_Itoa.f a0_1).bind fun t235 => (if (a0_0 ++ (⟨#[42]⟩ : ByteArray)).size + t235.size ≤ 9223372036854775807 then (some ((a0_0 ++ (⟨#[42]⟩ : ByteArray)) ++ t235)) else (none))) else (none)))

def impl_Move_text.e (k : Nat) : Refl.Ent G := ⟨83, [(.agg [.str, li])], .one (.c .str), fun x => impl_Move_text.f x.1 x.2⟩
theorem impl_Move_text.ok (k : Nat) : Refl.EntOK Tryz.prog (impl_Move_text.e k) := Refl.ent_ok 1000000 k GC (fun k => [strconv_Itoa.e k]) (fun k => ⟨strconv_Itoa.ok k, trivial⟩) Tryz.func83 (by kernel_rfl) [] (ps := []) (by kernel_rfl) trivial (fun x => by kernel_rfl)

/-! ### impl_MoveText: function 36 -/

def impl_MoveText.f (k : Nat) (a0_0 : ByteArray) (a0_1 : Int) : Option (ByteArray × Bool) := (impl_IsMove.f k a0_0 a0_1).bind fun t237 => (if t237 = true then ((impl_Move_text.f a0_0 a0_1).bind fun t238 => (some (t238, true))) else (some ((⟨#[]⟩ : ByteArray), false)))

theorem impl_MoveText.mono : ∀ a0 a1 k, LeO (impl_MoveText.f k a0 a1) (impl_MoveText.f (k + 1) a0 a1) := by
  intro a0 a1 k
  unfold impl_MoveText.f
  repeat' first
      | (with_reducible exact impl_IsMove.mono _ _ _)
      | (with_reducible exact LeO.refl _)
      | (with_reducible exact LeO.none _)
      | (with_reducible refine LeO.ite ?_ ?_)
      | (with_reducible refine LeO.bind ?_ (fun _ => ?_))
      | exact impl_IsMove.mono _ _ _
      | exact LeO.none _
      | refine LeO.ite ?_ ?_
      | refine LeO.bind ?_ (fun _ => ?_)

def impl_MoveText.e (k : Nat) : Refl.Ent G := ⟨36, [(.agg [.str, li])], .tup [(.c .str), (.c .bool)], fun x => impl_MoveText.f k x.1 x.2⟩
theorem impl_MoveText.ok (k : Nat) : Refl.EntOK Tryz.prog (impl_MoveText.e k) := Refl.ent_ok 1000000 k GC (fun k => [impl_IsMove.e k, impl_Move_text.e k]) (fun k => ⟨impl_IsMove.ok k, impl_Move_text.ok k, trivial⟩) Tryz.func36 (by kernel_rfl) [] (ps := []) (by kernel_rfl) trivial (fun x => by kernel_rfl)

/-! ### spec_l1Num: function 49 -/

def spec_l1Num.f : Nat → Int → Option (ByteArray)
  | 0, _ => none
  | k + 1, a0 => if a0 < 10 then (some (strOfNums (([(wrap64 (48 + a0)) % 256] : List Int)))) else ((spec_l1Num.f k (wrap64 (Int.tdiv a0 10))).bind fun t242 => ((some (([(wrap64 (48 + (Int.tmod a0 10))) % 256] : List Int) : List Int)).bind fun y243 => (if t242.size + (strOfNums y243).size ≤ 9223372036854775807 then (some (t242 ++ (strOfNums y243))) else (none))))

theorem spec_l1Num.mono_l : ∀ k, (∀ y0, LeO (spec_l1Num.f k y0) (spec_l1Num.f (k + 1) y0))
  | 0 => fun _ r h => by simp [spec_l1Num.f] at h
  | k + 1 => by
    have ih0 := spec_l1Num.mono_l k
    · intro y0
      unfold spec_l1Num.f
      repeat' first
      | (with_reducible exact ih0 _)
      | (with_reducible exact LeO.refl _)
      | (with_reducible exact LeO.none _)
      | (with_reducible refine LeO.ite ?_ ?_)
      | (with_reducible refine LeO.bind ?_ (fun _ => ?_))
      | exact ih0 _
      | exact LeO.none _
      | refine LeO.ite ?_ ?_
      | refine LeO.bind ?_ (fun _ => ?_)

theorem spec_l1Num.mono : ∀ a0 k, LeO (spec_l1Num.f k a0) (spec_l1Num.f (k + 1) a0) := by
  intro a0 k
  have ih0 := spec_l1Num.mono_l k
  exact ih0 a0

def spec_l1Num.e (k : Nat) : Refl.Ent G := ⟨49, [(.c li)], .one (.c .str), fun x => spec_l1Num.f k x⟩
theorem spec_l1Num.ok : ∀ k : Nat, Refl.EntOK Tryz.prog (spec_l1Num.e k)
 | 0 => Refl.entOK_none Tryz.func49 (by kernel_rfl) (fun x => by kernel_rfl)
 | k + 1 => Refl.ent_ok 1000000 0 GC (fun _ => [spec_l1Num.e k]) (fun _ => ⟨spec_l1Num.ok k, trivial⟩) Tryz.func49 (by kernel_rfl) [] (ps := []) (by kernel_rfl) trivial (fun x => by kernel_rfl)

/-! ### spec_mvText: function 84 -/

def spec_mvText.f (k : Nat) (a0_0 : ByteArray) (a0_1 : Int) : Option (ByteArray) := if a0_0.toList = ([] : List UInt8) then (some (⟨#[45]⟩ : ByteArray)) else (if a0_1 > 1 then (if a0_0.size + 1 ≤ 9223372036854775807 then ((spec_l1Num.f k a0_1).bind fun t247 => (if (a0_0 ++ (⟨#[42]⟩ : ByteArray)).size + t247.size ≤ 9223372036854775807 then (some ((a0_0 ++ (⟨#[42]⟩ : ByteArray)) ++ t247)) else (none))) else (none)) else (some a0_0))

theorem spec_mvText.mono : ∀ a0 a1 k, LeO (spec_mvText.f k a0 a1) (spec_mvText.f (k + 1) a0 a1) := by
  intro a0 a1 k
  unfold spec_mvText.f
  repeat' first
      | (with_reducible exact spec_l1Num.mono _ _)
      | (with_reducible exact LeO.refl _)
      | (with_reducible exact LeO.none _)
      | (with_reducible refine LeO.ite ?_ ?_)
      | (with_reducible refine LeO.bind ?_ (fun _ => ?_))
      | exact spec_l1Num.mono _ _
      | exact LeO.none _
      | refine LeO.ite ?_ ?_
      | refine LeO.bind ?_ (fun _ => ?_)

def spec_mvText.e (k : Nat) : Refl.Ent G := ⟨84, [(.agg [.str, li])], .one (.c .str), fun x => spec_mvText.f k x.1 x.2⟩
theorem spec_mvText.ok (k : Nat) : Refl.EntOK Tryz.prog (spec_mvText.e k) := Refl.ent_ok 1000000 k GC (fun k => [spec_l1Num.e k]) (fun k => ⟨spec_l1Num.ok k, trivial⟩) Tryz.func84 (by kernel_rfl) [] (ps := []) (by kernel_rfl) trivial (fun x => by kernel_rfl)

/-! ### spec_MoveText: function 37 -/

def spec_MoveText.f (k : Nat) (a0_0 : ByteArray) (a0_1 : Int) : Option (ByteArray × Bool) := (spec_mvGood.f k a0_0 a0_1).bind fun t249 => (if t249 = true then ((spec_mvText.f k a0_0 a0_1).bind fun t250 => (some (t250, true))) else (some ((⟨#[]⟩ : ByteArray), false)))

theorem spec_MoveText.mono : ∀ a0 a1 k, LeO (spec_MoveText.f k a0 a1) (spec_MoveText.f (k + 1) a0 a1) := by
  intro a0 a1 k
  unfold spec_MoveText.f
  repeat' first
      | (with_reducible exact spec_mvGood.mono _ _ _)
      | (with_reducible exact spec_mvText.mono _ _ _)
      | (with_reducible exact LeO.refl _)
      | (with_reducible exact LeO.none _)
      | (with_reducible refine LeO.ite ?_ ?_)
      | (with_reducible refine LeO.bind ?_ (fun _ => ?_))
      | exact spec_mvGood.mono _ _ _
      | exact spec_mvText.mono _ _ _
      | exact LeO.none _
      | refine LeO.ite ?_ ?_
      | refine LeO.bind ?_ (fun _ => ?_)

def spec_MoveText.e (k : Nat) : Refl.Ent G := ⟨37, [(.agg [.str, li])], .tup [(.c .str), (.c .bool)], fun x => spec_MoveText.f k x.1 x.2⟩
theorem spec_MoveText.ok (k : Nat) : Refl.EntOK Tryz.prog (spec_MoveText.e k) := Refl.ent_ok 1000000 k GC (fun k => [spec_mvGood.e k, spec_mvText.e k]) (fun k => ⟨spec_mvGood.ok k, spec_mvText.ok k, trivial⟩) Tryz.func37 (by kernel_rfl) [] (ps := []) (by kernel_rfl) trivial (fun x => by kernel_rfl)

/-! ### spec_l1Cur_spoilt: function 86 -/

mutual
def spec_l1Cur_spoilt.l0 : Nat → ByteArray → ByteArray → Int → List Int → Int → Int → Option (ByteArray × List Int × Int × Int)
  | 0, _, _, _, _, _, _ => none
  | k + 1, x1, x2, x7, x1000, x1001, x1002 => if x7 > 0 then (spec_l1Cur_spoilt.j1 k x1 x2 x7 (decide ((x1.size : Int) > 0)) x1000 x1001 x1002) else (spec_l1Cur_spoilt.j1 k x1 x2 x7 false x1000 x1001 x1002)
def spec_l1Cur_spoilt.j1 : Nat → ByteArray → ByteArray → Int → Bool → List Int → Int → Int → Option (ByteArray × List Int × Int × Int)
  | 0, _, _, _, _, _, _, _ => none
  | k + 1, x1, x2, x7, x19, x1000, x1001, x1002 => if x19 = true then ((spec_l1Cur_pick.f x1000 x1001 x1002 (x1.size : Int)).bind fun bt255 => ((spec_l1Cur_pick.f bt255.2.1 bt255.2.2.1 bt255.2.2.2 (x2.size : Int)).bind fun bt259 => (if 0 ≤ bt259.1 then (if bt259.1 < (x2.size : Int) then ((some (([bt x2 bt259.1] : List Int) : List Int)).bind fun y263 => ((spec_l1Cur_pick.f bt259.2.1 bt259.2.2.1 bt259.2.2.2 3).bind fun bt266 => (if bt266.1 = 0 then (if 0 ≤ bt255.1 then (if bt255.1 ≤ (x1.size : Int) then (if (x1.extract 0 (bt255.1 : Int).toNat).size + (strOfNums y263).size ≤ 9223372036854775807 then (if 0 ≤ bt255.1 then (if bt255.1 ≤ (x1.size : Int) then (if ((x1.extract 0 (bt255.1 : Int).toNat) ++ (strOfNums y263)).size + (x1.extract (bt255.1 : Int).toNat x1.size).size ≤ 9223372036854775807 then (spec_l1Cur_spoilt.l0 k (((x1.extract 0 (bt255.1 : Int).toNat) ++ (strOfNums y263)) ++ (x1.extract (bt255.1 : Int).toNat x1.size)) x2 (wrap64 (x7 - 1)) bt266.2.1 bt266.2.2.1 bt266.2.2.2) else (none)) else (none)) else (none)) else (none)) else (none)) else (none)) else (if bt266.1 = 1 then (if 0 ≤ bt255.1 then (if bt255.1 ≤ (x1.size : Int) then (if (x1.extract 0 (bt255.1 : Int).toNat).size + (strOfNums y263).size ≤ 9223372036854775807 then (if 0 ≤ (wrap64 (bt255.1 + 1)) then (if (wrap64 (bt255.1 + 1)) ≤ (x1.size : Int) then (if ((x1.extract 0 (bt255.1 : Int).toNat) ++ (strOfNums y263)).size + (x1.extract ((wrap64 (bt255.1 + 1)) : Int).toNat x1.size).size ≤ 9223372036854775807 then (spec_l1Cur_spoilt.l0 k (((x1.extract 0 (bt255.1 : Int).toNat) ++ (strOfNums y263)) ++ (x1.extract ((wrap64 (bt255.1 + 1)) : Int).toNat x1.size)) x2 (wrap64 (x7 - 1)) bt266.2.1 bt266.2.2.1 bt266.2.2.2) else (none)) else (none)) else (none)) else (none)) else (none)) else (none)) else (if 0 ≤ bt255.1 then (if bt255.1 ≤ (x1.size : Int) then (if 0 ≤ (wrap64 (bt255.1 + 1)) then (if (wrap64 (bt255.1 + 1)) ≤ (x1.size : Int) then (if (x1.extract 0 (bt255.1 : Int).toNat).size + (x1.extract ((wrap64 (bt255.1 + 1)) : Int).toNat x1.size).size ≤ 9223372036854775807 then (spec_l1Cur_spoilt.l0 k ((x1.extract 0 (bt255.1 : Int).toNat) ++ (x1.extract ((wrap64 (bt255.1 + 1)) : Int).toNat x1.size)) x2 (wrap64 (x7 - 1)) bt266.2.1 bt266.2.2.1 bt266.2.2.2) else (none)) else (none)) else (none)) else (none)) else (none)))))) else (none)) else (none)))) else (some (x1, x1000, x1001, x1002))
end

def spec_l1Cur_spoilt.f (k : Nat) (s0_0 : List Int) (s0_1 : Int) (s0_2 : Int) (a1 : ByteArray) (a2 : ByteArray) : Option (ByteArray × List Int × Int × Int) := (spec_l1Cur_pick.f s0_0 s0_1 s0_2 2).bind fun bt251 => (spec_l1Cur_spoilt.l0 k a1 a2 (wrap64 (1 + bt251.1)) bt251.2.1 bt251.2.2.1 bt251.2.2.2)

theorem spec_l1Cur_spoilt.mono_l : ∀ k, (∀ y0 y1 y2 y3 y4 y5, LeO (spec_l1Cur_spoilt.l0 k y0 y1 y2 y3 y4 y5) (spec_l1Cur_spoilt.l0 (k + 1) y0 y1 y2 y3 y4 y5)) ∧ (∀ y0 y1 y2 y3 y4 y5 y6, LeO (spec_l1Cur_spoilt.j1 k y0 y1 y2 y3 y4 y5 y6) (spec_l1Cur_spoilt.j1 (k + 1) y0 y1 y2 y3 y4 y5 y6))
  | 0 => ⟨fun _ _ _ _ _ _ r h => by simp [spec_l1Cur_spoilt.l0] at h, fun _ _ _ _ _ _ _ r h => by simp [spec_l1Cur_spoilt.j1] at h⟩
  | k + 1 => by
    obtain ⟨ih0, ih1⟩ := spec_l1Cur_spoilt.mono_l k
    refine ⟨?_, ?_⟩
    · intro y0 y1 y2 y3 y4 y5
      unfold spec_l1Cur_spoilt.l0
      repeat' first
      | (with_reducible exact ih0 _ _ _ _ _ _)
      | (with_reducible exact ih1 _ _ _ _ _ _ _)
      | (with_reducible exact LeO.refl _)
      | (with_reducible exact LeO.none _)
      | (with_reducible refine LeO.ite ?_ ?_)
      | (with_reducible refine LeO.bind ?_ (fun _ => ?_))
      | exact ih0 _ _ _ _ _ _
      | exact ih1 _ _ _ _ _ _ _
      | exact LeO.none _
      | refine LeO.ite ?_ ?_
      | refine LeO.bind ?_ (fun _ => ?_)
    · intro y0 y1 y2 y3 y4 y5 y6
      unfold spec_l1Cur_spoilt.j1
      repeat' first
      | (with_reducible exact ih0 _ _ _ _ _ _)
      | (with_reducible exact ih1 _ _ _ _ _ _ _)
      | (with_reducible exact LeO.refl _)
      | (with_reducible exact LeO.none _)
      | (with_reducible refine LeO.ite ?_ ?_)
      | (with_reducible refine LeO.bind ?_ (fun _ => ?_))
      | exact ih0 _ _ _ _ _ _
      | exact ih1 _ _ _ _ _ _ _
      | exact LeO.none _
      | refine LeO.ite ?_ ?_
      | refine LeO.bind ?_ (fun _ => ?_)

theorem spec_l1Cur_spoilt.mono : ∀ a0 a1 a2 a3 a4 k, LeO (spec_l1Cur_spoilt.f k a0 a1 a2 a3 a4) (spec_l1Cur_spoilt.f (k + 1) a0 a1 a2 a3 a4) := by
  intro a0 a1 a2 a3 a4 k
  obtain ⟨ih0, ih1⟩ := spec_l1Cur_spoilt.mono_l k
  unfold spec_l1Cur_spoilt.f
  repeat' first
      | (with_reducible exact ih0 _ _ _ _ _ _)
      | (with_reducible exact ih1 _ _ _ _ _ _ _)
      | (with_reducible exact LeO.refl _)
      | (with_reducible exact LeO.none _)
      | (with_reducible refine LeO.ite ?_ ?_)
      | (with_reducible refine LeO.bind ?_ (fun _ => ?_))
      | exact ih0 _ _ _ _ _ _
      | exact ih1 _ _ _ _ _ _ _
      | exact LeO.none _
      | refine LeO.ite ?_ ?_
      | refine LeO.bind ?_ (fun _ => ?_)

def spec_l1Cur_spoilt.e (k : Nat) : Refl.Ent G := ⟨86, [(.wr 1000000 66 gL0), (.c .str), (.c .str)], .one (.c .str), fun x => spec_l1Cur_spoilt.f k x.1 x.2.1 x.2.2.1 x.2.2.2.1 x.2.2.2.2⟩
def spec_l1Cur_spoilt.pl0 : Refl.Pn G (Refl.PT G (spec_l1Cur_spoilt.e 0).ol) := ⟨true, 0, ⟨[(1, .v (.c .str)), (2, .v (.c .str)), (7, .v (.c li)), (0, .box 1000000 0)], [(1000000, 66, gL1)]⟩, fun k x => spec_l1Cur_spoilt.l0 k x.1 x.2.1 x.2.2.1 x.2.2.2.1 x.2.2.2.2.1 x.2.2.2.2.2⟩
def spec_l1Cur_spoilt.pj1 : Refl.Pn G (Refl.PT G (spec_l1Cur_spoilt.e 0).ol) := ⟨false, 1000002, ⟨[(1, .v (.c .str)), (2, .v (.c .str)), (7, .v (.c li)), (19, .v (.c .bool)), (0, .box 1000000 0)], [(1000000, 66, gL1)]⟩, fun k x => spec_l1Cur_spoilt.j1 k x.1 x.2.1 x.2.2.1 x.2.2.2.1 x.2.2.2.2.1 x.2.2.2.2.2.1 x.2.2.2.2.2.2⟩
theorem spec_l1Cur_spoilt.ok (k : Nat) : Refl.EntOK Tryz.prog (spec_l1Cur_spoilt.e k) := Refl.ent_ok 1000000 k GC (fun k => [spec_l1Cur_pick.e k]) (fun k => ⟨spec_l1Cur_pick.ok k, trivial⟩) Tryz.func86 (by kernel_rfl) [spec_l1Cur_spoilt.pl0, spec_l1Cur_spoilt.pj1] (ps := [spec_l1Cur_spoilt.pl0, spec_l1Cur_spoilt.pj1]) (by kernel_rfl) ⟨⟨fun x => by kernel_rfl, fun k x => by kernel_rfl⟩, ⟨fun x => by kernel_rfl, fun k x => by kernel_rfl⟩, trivial⟩ (fun x => by kernel_rfl)

/-! ### spec_DrawParseMove: function 38 -/

def spec_DrawParseMove.f (k : Nat) (l0 : List Int) : Option (ByteArray) := (spec_l1Cur_move.f k l0 0 0).bind fun bt271 => ((spec_mvText.f k bt271.1 bt271.2.1).bind fun t276 => ((spec_l1Cur_pick.f bt271.2.2.1 bt271.2.2.2.1 bt271.2.2.2.2 4).bind fun bt277 => (if bt277.1 = 0 then ((spec_l1Cur_spoilt.f k bt277.2.1 bt277.2.2.1 bt277.2.2.2 t276 (⟨#[117, 100, 108, 114, 42, 45, 50, 51]⟩ : ByteArray)).bind fun bt281 => (some bt281.1)) else (if bt277.1 = 1 then ((spec_l1Cur_of.f bt277.2.1 bt277.2.2.1 bt277.2.2.2 (([(⟨#[]⟩ : ByteArray), (⟨#[45]⟩ : ByteArray), (⟨#[42, 50]⟩ : ByteArray), (⟨#[45, 42, 50]⟩ : ByteArray), (⟨#[117, 42, 49]⟩ : ByteArray), (⟨#[117, 42, 52]⟩ : ByteArray), (⟨#[117, 42, 48, 50]⟩ : ByteArray), (⟨#[117, 117, 117, 117, 117, 117, 117]⟩ : ByteArray), (⟨#[117, 42, 42, 50]⟩ : ByteArray), (⟨#[108, 114, 42, 50]⟩ : ByteArray)] : List ByteArray))).bind fun bt288 => (some bt288.1)) else (some t276)))))

theorem spec_DrawParseMove.mono : ∀ a0 k, LeO (spec_DrawParseMove.f k a0) (spec_DrawParseMove.f (k + 1) a0) := by
  intro a0 k
  unfold spec_DrawParseMove.f
  repeat' first
      | (with_reducible exact spec_l1Cur_move.mono _ _ _ _)
      | (with_reducible exact spec_l1Cur_spoilt.mono _ _ _ _ _ _)
      | (with_reducible exact spec_mvText.mono _ _ _)
      | (with_reducible exact LeO.refl _)
      | (with_reducible exact LeO.none _)
      | (with_reducible refine LeO.ite ?_ ?_)
      | (with_reducible refine LeO.bind ?_ (fun _ => ?_))
      | exact spec_l1Cur_move.mono _ _ _ _
      | exact spec_l1Cur_spoilt.mono _ _ _ _ _ _
      | exact spec_mvText.mono _ _ _
      | exact LeO.none _
      | refine LeO.ite ?_ ?_
      | refine LeO.bind ?_ (fun _ => ?_)

def spec_DrawParseMove.e (k : Nat) : Refl.Ent G := ⟨38, [(.c (.row 5 false))], .one (.c .str), fun x => spec_DrawParseMove.f k x⟩
theorem spec_DrawParseMove.ok (k : Nat) : Refl.EntOK Tryz.prog (spec_DrawParseMove.e k) := Refl.ent_ok 1000000 k GC (fun k => [spec_l1Cur_move.e k, spec_mvText.e k, spec_l1Cur_pick.e k, spec_l1Cur_spoilt.e k, spec_l1Cur_of.e k]) (fun k => ⟨spec_l1Cur_move.ok k, spec_mvText.ok k, spec_l1Cur_pick.ok k, spec_l1Cur_spoilt.ok k, spec_l1Cur_of.ok k, trivial⟩) Tryz.func38 (by kernel_rfl) [] (ps := []) (by kernel_rfl) trivial (fun x => by kernel_rfl)

/-! ### stringslite_Index: function 132 -/

def stringslite_Index.f (a0 a1 : ByteArray) : Option Int := if a1.size = 1 then some (Lib.indexByte a0.data.toList (a1.data.toList.headD 0)) else none
theorem stringslite_Index.calls (a0 a1 : ByteArray) (r : Int) (w : World) (h : stringslite_Index.f a0 a1 = some r) : Calls Tryz.prog 132 #[.string a0, .string a1] w fun e w' => e = .returned (.int .i64 r) ∧ Drawn0 w w' := by
  unfold stringslite_Index.f at h
  split at h
  · rename_i h1
    obtain rfl := Option.some.inj h
    obtain ⟨c, rfl⟩ : ∃ c, a1 = ⟨#[c]⟩ := by
      obtain ⟨⟨l⟩⟩ := a1
      cases l with
      | nil => exact absurd h1 (by decide)
      | cons c l =>
        cases l with
        | nil => exact ⟨c, rfl⟩
        | cons d l => exact absurd h1 (by simp [ByteArray.size])
    exact (Tryz.stringslite_Index_one a0 c w).mono fun e w' hh => ⟨hh.1, by rw [hh.2]; exact Drawn0.refl _⟩
  · cases h

def stringslite_Index.e (k : Nat) : Refl.Ent G := ⟨132, [(.c .str), (.c .str)], .one (.c li), fun x => stringslite_Index.f x.1 x.2⟩
theorem stringslite_Index.ok (k : Nat) : Refl.EntOK Tryz.prog (stringslite_Index.e k) := Refl.entOK_hand Tryz.func132 (by kernel_rfl) (fun x => by kernel_rfl) (fun y => ⟨by kernel_rfl, by kernel_rfl, by kernel_rfl, by kernel_rfl⟩) (fun x y h w => (stringslite_Index.calls x.1 x.2 y w h).mono fun e w' hh => ⟨hh.1, hh.2.below⟩)

/-! ### stringslite_Cut: function 113 -/

def stringslite_Cut.f (a0 : ByteArray) (a1 : ByteArray) : Option (ByteArray × ByteArray × Bool) := (stringslite_Index.f a0 a1).bind fun t292 => (if t292 ≥ 0 then (if 0 ≤ t292 then (if t292 ≤ (a0.size : Int) then (if 0 ≤ (wrap64 (t292 + (a1.size : Int))) then (if (wrap64 (t292 + (a1.size : Int))) ≤ (a0.size : Int) then (some (a0.extract 0 (t292 : Int).toNat, a0.extract ((wrap64 (t292 + (a1.size : Int))) : Int).toNat a0.size, true)) else (none)) else (none)) else (none)) else (none)) else (some (a0, (⟨#[]⟩ : ByteArray), false)))

def stringslite_Cut.e (k : Nat) : Refl.Ent G := ⟨113, [(.c .str), (.c .str)], .tup [(.c .str), (.c .str), (.c .bool)], fun x => stringslite_Cut.f x.1 x.2⟩
theorem stringslite_Cut.ok (k : Nat) : Refl.EntOK Tryz.prog (stringslite_Cut.e k) := Refl.ent_ok 1000000 k GC (fun k => [stringslite_Index.e k]) (fun k => ⟨stringslite_Index.ok k, trivial⟩) Tryz.func113 (by kernel_rfl) [] (ps := []) (by kernel_rfl) trivial (fun x => by kernel_rfl)

/-! ### strings_Cut: function 88 -/

def strings_Cut.f (a0 : ByteArray) (a1 : ByteArray) : Option (ByteArray × ByteArray × Bool) := (stringslite_Cut.f a0 a1).bind fun bt293 => (some (bt293.1, bt293.2.1, bt293.2.2))

def strings_Cut.e (k : Nat) : Refl.Ent G := ⟨88, [(.c .str), (.c .str)], .tup [(.c .str), (.c .str), (.c .bool)], fun x => strings_Cut.f x.1 x.2⟩
theorem strings_Cut.ok (k : Nat) : Refl.EntOK Tryz.prog (strings_Cut.e k) := Refl.ent_ok 1000000 k GC (fun k => [stringslite_Cut.e k]) (fun k => ⟨stringslite_Cut.ok k, trivial⟩) Tryz.func88 (by kernel_rfl) [] (ps := []) (by kernel_rfl) trivial (fun x => by kernel_rfl)

/-! ### impl_decimal: function 89 -/

def decV (s : ByteArray) : Int × Bool := match Lib.atoiAll s.data.toList with
  | .ok v => if Lib.itoa v = s.data.toList then (v, true) else (0, false)
  | _ => (0, false)

def impl_decimal.f (a0 : ByteArray) : Option (Int × Bool) := if a0.size ≤ 281474976710656 then some (decV a0) else none

def impl_decimal.e (k : Nat) : Refl.Ent G := ⟨89, [(.c .str)], .tup [(.c li), (.c .bool)], fun x => impl_decimal.f x⟩
theorem atoi_range {l : List UInt8} {v : Int} (h : Lib.atoiAll l = .ok v) : -9223372036854775808 ≤ v ∧ v ≤ 9223372036854775807 := by
  unfold Lib.atoiAll at h
  cases l with
  | nil => cases h
  | cons c r =>
    simp only [] at h
    split at h
    · cases h
    · cases h
    · rename_i u hu
      split at h
      · cases h
      · split at h
        · cases h
        · rename_i h1 h2
          obtain rfl := Lib.NumEnd.ok.inj h
          split
          · rename_i hn
            have : ¬ 9223372036854775808 < u := fun e => h2 ⟨hn, e⟩
            omega
          · rename_i hn
            have : ¬ 9223372036854775808 ≤ u := fun e => h1 ⟨hn, e⟩
            omega
theorem dec_atoi (s : ByteArray) (hs : s.size ≤ 281474976710656) (w : World) (hl : Lw w) : Calls Tryz.prog 114 #[.string s] w fun e w' => (match Lib.atoiAll s.data.toList with
    | .ok v => e = .returned (.tuple #[.int .i64 v, .nilIface])
    | _ => ∃ n t p, e = .returned (.tuple #[.int .i64 n, .iface t p])) ∧ Below w.heap.size w w' := by
  obtain ⟨_, ⟨t1, p1, v1⟩, ⟨t2, p2, v2⟩, _⟩ := hl
  cases h : Lib.atoiAll s.data.toList with
  | ok v =>
    refine (Tryz.strconv_Atoi_ok s (by omega) v h w).mono ?_
    rintro e w' ⟨rfl, rfl | ⟨t, rfl⟩⟩
    · exact ⟨rfl, Below.refl _ _⟩
    · exact ⟨rfl, Lib.bytesWorld_below _ _ _⟩
  | «syntax» =>
    refine (Tryz.strconv_Atoi_syntax_var s hs h t1 p1 w v1).mono ?_
    rintro e w' ⟨N, rfl, _, _, hb⟩
    exact ⟨⟨_, _, _, rfl⟩, hb⟩
  | range =>
    refine (Tryz.strconv_Atoi_range_var s hs h t2 p2 w v2).mono ?_
    rintro e w' ⟨N, rfl, _, _, hb⟩
    exact ⟨⟨_, _, _, rfl⟩, hb⟩
theorem dec_itoa (n : Int) (h : -9223372036854775808 ≤ n ∧ n ≤ 9223372036854775807) (w : World) (hl : Lw w) : Calls Tryz.prog 48 #[.int .i64 n] w fun e w' => e = .returned (.string ⟨(Lib.itoa n).toArray⟩) ∧ Below w.heap.size w w' := by
  refine (Tryz.strconv_Itoa n h.1 h.2 w hl.2.2.2).mono ?_
  rintro e w' ⟨rfl, k, os, rfl⟩
  exact ⟨rfl, Lib.below_grow _ w (Nat.le_refl _) k os⟩
set_option maxHeartbeats 4000000 in
set_option maxRecDepth 100000 in
theorem dec_calls (a0 : ByteArray) (r1 : Int) (r2 : Bool) (w : World) (hl : Lw w) (h : impl_decimal.f a0 = some (r1, r2)) : Calls Tryz.prog 89 #[.string a0] w fun e w' => e = .returned (.tuple #[.int .i64 r1, .bool r2]) ∧ Below w.heap.size w w' := by
  unfold impl_decimal.f at h
  split at h
  · rename_i hs
    have h := Option.some.inj h
    unfold decV at h
    have HA := dec_atoi a0 hs w hl
    cases hv : Lib.atoiAll a0.data.toList with
    | ok v =>
      rw [hv] at h HA
      simp only [] at h HA
      have hr := atoi_range hv
      by_cases e : Lib.itoa v = a0.data.toList
      · rw [if_pos e] at h
        obtain ⟨rfl, rfl⟩ := Prod.mk.inj h
        have ht : (⟨(Lib.itoa v).toArray⟩ : ByteArray) = a0 := by rw [e]
        have HA := Aside0.mk HA
        have HL := Aside0.mk hl
        clear hl h hv
        go_enter Tryz.func89, Tryz.ntmps89
        go_wp2_with (first | (go_at_call 114; refine HA.out.mono ?_; rintro e1 w1 ⟨rfl, hb1⟩; have HB := Aside0.mk hb1; have HI := Aside0.mk (dec_itoa v hr w1 (HL.out.below hb1)); clear hb1) | (go_at_call 48; refine HI.out.mono ?_; rintro e2 w2 ⟨rfl, hb2⟩; rw [ht]; have HC := Aside0.mk ((HB.out).trans (hb2.mono HB.out.size)); clear hb2))
        refine bodyPost_ret (results_list (rs := [.tmp 2, .tmp 3]) rfl (by simp) (.tmp (.tmp .nil))) rfl ?_
        exact ⟨by first | rfl | simp, HC.out⟩
      · rw [if_neg e] at h
        obtain ⟨rfl, rfl⟩ := Prod.mk.inj h
        have hz : ¬ (⟨(Lib.itoa v).toArray⟩ : ByteArray) = a0 := fun e2 => e (by rw [← e2])
        have HI0 := fun w hl => dec_itoa v hr w hl
        generalize (⟨(Lib.itoa v).toArray⟩ : ByteArray) = z at hz HI0
        have hz1 : (z.toList == a0.toList) = false := by
          rw [beq_eq_false_iff_ne]
          intro e2
          apply hz
          rw [← bs_list, ← bs_list] at e2
          obtain ⟨⟨z⟩⟩ := z
          obtain ⟨⟨x⟩⟩ := a0
          simp at e2
          rw [e2]
        have HA := Aside0.mk HA
        have HL := Aside0.mk hl
        have HJ := Aside0.mk HI0
        clear hl h hv e HI0
        go_enter Tryz.func89, Tryz.ntmps89
        go_wp2_with (first | (go_at_call 114; refine HA.out.mono ?_; rintro e1 w1 ⟨rfl, hb1⟩; have HB := Aside0.mk hb1; have HI := Aside0.mk (HJ.out w1 (HL.out.below hb1)); clear hb1) | (go_at_call 48; refine HI.out.mono ?_; rintro e2 w2 ⟨rfl, hb2⟩; have HC := Aside0.mk ((HB.out).trans (hb2.mono HB.out.size)); clear hb2))
        refine bodyPost_ret (results_list (rs := [.tmp 2, .tmp 3]) rfl (by simp) (.tmp (.tmp .nil))) rfl ?_
        exact ⟨by first | rfl | simp, HC.out⟩
    | «syntax» =>
      rw [hv] at h HA
      simp only [] at h HA
      obtain ⟨rfl, rfl⟩ := Prod.mk.inj h
      have HA := Aside0.mk HA
      clear hl h hv
      go_enter Tryz.func89, Tryz.ntmps89
      go_wp2_with (go_at_call 114; refine HA.out.mono ?_; rintro e1 w1 ⟨⟨n1, t1, p1, rfl⟩, hb1⟩; have HB := Aside0.mk hb1; clear hb1)
      refine bodyPost_ret (results_list (rs := [.tmp 2, .tmp 3]) rfl (by simp) (.tmp (.tmp .nil))) rfl ?_
      exact ⟨by first | rfl | simp, HB.out⟩
    | range =>
      rw [hv] at h HA
      simp only [] at h HA
      obtain ⟨rfl, rfl⟩ := Prod.mk.inj h
      have HA := Aside0.mk HA
      clear hl h hv
      go_enter Tryz.func89, Tryz.ntmps89
      go_wp2_with (go_at_call 114; refine HA.out.mono ?_; rintro e1 w1 ⟨⟨n1, t1, p1, rfl⟩, hb1⟩; have HB := Aside0.mk hb1; clear hb1)
      refine bodyPost_ret (results_list (rs := [.tmp 2, .tmp 3]) rfl (by simp) (.tmp (.tmp .nil))) rfl ?_
      exact ⟨by first | rfl | simp, HB.out⟩
  · cases h
theorem impl_decimal.ok (k : Nat) : Refl.EntOK Tryz.prog (impl_decimal.e k) := Refl.entOK_handL Tryz.func89 (by kernel_rfl) (fun x => by kernel_rfl) (fun y => ⟨by kernel_rfl, by kernel_rfl, by kernel_rfl, by kernel_rfl⟩) (fun x y h w hl => dec_calls x y.1 y.2 w hl h)

/-! ### impl_ParseMove: function 39 -/

mutual
def impl_ParseMove.j0 : Nat → ByteArray → ByteArray → Int → Option (ByteArray × Int × Bool)
  | 0, _, _, _ => none
  | k + 1, x0, x301000, x301001 => if x0.toList = ([45] : List UInt8) then (impl_ParseMove.j1 k x0 (⟨#[]⟩ : ByteArray) x301001) else (impl_ParseMove.j1 k x0 x301000 x301001)
def impl_ParseMove.j1 : Nat → ByteArray → ByteArray → Int → Option (ByteArray × Int × Bool)
  | 0, _, _, _ => none
  | k + 1, x0, x301000, x301001 => (impl_IsMove.f k x301000 x301001).bind fun t303 => (if t303 = true then ((impl_Move_text.f x301000 x301001).bind fun t304 => (if t304.toList = x0.toList then (some (x301000, x301001, true)) else (some ((⟨#[]⟩ : ByteArray), 0, false)))) else (some ((⟨#[]⟩ : ByteArray), 0, false)))
end

def impl_ParseMove.f (k : Nat) (a0 : ByteArray) : Option (ByteArray × Int × Bool) := (strings_Cut.f a0 (⟨#[42]⟩ : ByteArray)).bind fun bt297 => (if bt297.2.2 = true then ((impl_decimal.f bt297.2.1).bind fun bt301 => (impl_ParseMove.j0 k a0 bt297.1 bt301.1)) else (impl_ParseMove.j0 k a0 bt297.1 1))

theorem impl_ParseMove.mono_l : ∀ k, (∀ y0 y1 y2, LeO (impl_ParseMove.j0 k y0 y1 y2) (impl_ParseMove.j0 (k + 1) y0 y1 y2)) ∧ (∀ y0 y1 y2, LeO (impl_ParseMove.j1 k y0 y1 y2) (impl_ParseMove.j1 (k + 1) y0 y1 y2))
  | 0 => ⟨fun _ _ _ r h => by simp [impl_ParseMove.j0] at h, fun _ _ _ r h => by simp [impl_ParseMove.j1] at h⟩
  | k + 1 => by
    obtain ⟨ih0, ih1⟩ := impl_ParseMove.mono_l k
    refine ⟨?_, ?_⟩
    · intro y0 y1 y2
      unfold impl_ParseMove.j0
      repeat' first
      | (with_reducible exact ih0 _ _ _)
      | (with_reducible exact ih1 _ _ _)
      | (with_reducible exact impl_IsMove.mono _ _ _)
      | (with_reducible exact LeO.refl _)
      | (with_reducible exact LeO.none _)
      | (with_reducible refine LeO.ite ?_ ?_)
      | (with_reducible refine LeO.bind ?_ (fun _ => ?_))
      | exact ih0 _ _ _
      | exact ih1 _ _ _
      | exact impl_IsMove.mono _ _ _
      | exact LeO.none _
      | refine LeO.ite ?_ ?_
      | refine LeO.bind ?_ (fun _ => ?_)
    · intro y0 y1 y2
      unfold impl_ParseMove.j1
      repeat' first
      | (with_reducible exact ih0 _ _ _)
      | (with_reducible exact ih1 _ _ _)
      | (with_reducible exact impl_IsMove.mono _ _ _)
      | (with_reducible exact LeO.refl _)
      | (with_reducible exact LeO.none _)
      | (with_reducible refine LeO.ite ?_ ?_)
      | (with_reducible refine LeO.bind ?_ (fun _ => ?_))
      | exact ih0 _ _ _
      | exact ih1 _ _ _
      | exact impl_IsMove.mono _ _ _
      | exact LeO.none _
      | refine LeO.ite ?_ ?_
      | refine LeO.bind ?_ (fun _ => ?_)

theorem impl_ParseMove.mono : ∀ a0 k, LeO (impl_ParseMove.f k a0) (impl_ParseMove.f (k + 1) a0) := by
  intro a0 k
  obtain ⟨ih0, ih1⟩ := impl_ParseMove.mono_l k
  unfold impl_ParseMove.f
  repeat' first
      | (with_reducible exact ih0 _ _ _)
      | (with_reducible exact ih1 _ _ _)
      | (with_reducible exact impl_IsMove.mono _ _ _)
      | (with_reducible exact LeO.refl _)
      | (with_reducible exact LeO.none _)
      | (with_reducible refine LeO.ite ?_ ?_)
      | (with_reducible refine LeO.bind ?_ (fun _ => ?_))
      | exact ih0 _ _ _
      | exact ih1 _ _ _
      | exact impl_IsMove.mono _ _ _
      | exact LeO.none _
      | refine LeO.ite ?_ ?_
      | refine LeO.bind ?_ (fun _ => ?_)

def impl_ParseMove.e (k : Nat) : Refl.Ent G := ⟨39, [(.c .str)], .tup [(.agg [.str, li]), (.c .bool)], fun x => impl_ParseMove.f k x⟩
def impl_ParseMove.pj0 : Refl.Pn G (Refl.PT G (impl_ParseMove.e 0).ol) := ⟨false, 5, ⟨[(0, .v (.c .str)), (7, .box 7 0), (2, .box 2 0), (3, .k (Value.bool false))], [(7, 51, gL2), (2, 51, gL3)]⟩, fun k x => impl_ParseMove.j0 k x.1 x.2.1 x.2.2⟩
def impl_ParseMove.pj1 : Refl.Pn G (Refl.PT G (impl_ParseMove.e 0).ol) := ⟨false, 7, ⟨[(0, .v (.c .str)), (7, .box 7 0), (2, .box 2 0), (3, .k (Value.bool false))], [(7, 51, gL2), (2, 51, gL3)]⟩, fun k x => impl_ParseMove.j1 k x.1 x.2.1 x.2.2⟩
theorem impl_ParseMove.ok (k : Nat) : Refl.EntOK Tryz.prog (impl_ParseMove.e k) := Refl.ent_ok 1000000 k GC (fun k => [strings_Cut.e k, impl_decimal.e k, impl_IsMove.e k, impl_Move_text.e k]) (fun k => ⟨strings_Cut.ok k, impl_decimal.ok k, impl_IsMove.ok k, impl_Move_text.ok k, trivial⟩) Tryz.func39 (by kernel_rfl) [impl_ParseMove.pj0, impl_ParseMove.pj1] (ps := [impl_ParseMove.pj0, impl_ParseMove.pj1]) (by kernel_rfl) ⟨⟨fun x => by kernel_rfl, fun k x => by kernel_rfl⟩, ⟨fun x => by kernel_rfl, fun k x => by kernel_rfl⟩, trivial⟩ (fun x => by kernel_rfl)

/-! ### spec_l1Split: function 115 -/

def spec_l1Split.l0 : Nat → ByteArray → Int → List ByteArray → Int → Int → Option (List ByteArray)
  | 0, _, _, _, _, _ => none
  | k + 1, x0, x1, x5, x6, x7 => if x7 < (x0.size : Int) then (if 0 ≤ x7 then (if x7 < (x0.size : Int) then (if (bt x0 x7) = x1 then (if 0 ≤ x6 then (if x6 ≤ x7 then (if x7 ≤ (x0.size : Int) then (if x5.length < 8796093022208 then (spec_l1Split.l0 k x0 x1 (x5 ++ [x0.extract (x6 : Int).toNat (x7 : Int).toNat]) (wrap64 (x7 + 1)) (wrap64 (x7 + 1))) else (none)) else (none)) else (none)) else (none)) else (spec_l1Split.l0 k x0 x1 x5 x6 (wrap64 (x7 + 1)))) else (none)) else (none)) else (if 0 ≤ x6 then (if x6 ≤ (x0.size : Int) then (if x5.length < 8796093022208 then (some (x5 ++ [x0.extract (x6 : Int).toNat x0.size])) else (none)) else (none)) else (none))

def spec_l1Split.f (k : Nat) (a0 : ByteArray) (a1 : Int) : Option (List ByteArray) := spec_l1Split.l0 k a0 a1 ([] : List ByteArray) 0 0

theorem spec_l1Split.mono_l : ∀ k, (∀ y0 y1 y2 y3 y4, LeO (spec_l1Split.l0 k y0 y1 y2 y3 y4) (spec_l1Split.l0 (k + 1) y0 y1 y2 y3 y4))
  | 0 => fun _ _ _ _ _ r h => by simp [spec_l1Split.l0] at h
  | k + 1 => by
    have ih0 := spec_l1Split.mono_l k
    · intro y0 y1 y2 y3 y4
      unfold spec_l1Split.l0
      repeat' first
      | (with_reducible exact ih0 _ _ _ _ _)
      | (with_reducible exact LeO.refl _)
      | (with_reducible exact LeO.none _)
      | (with_reducible refine LeO.ite ?_ ?_)
      | (with_reducible refine LeO.bind ?_ (fun _ => ?_))
      | exact ih0 _ _ _ _ _
      | exact LeO.none _
      | refine LeO.ite ?_ ?_
      | refine LeO.bind ?_ (fun _ => ?_)

theorem spec_l1Split.mono : ∀ a0 a1 k, LeO (spec_l1Split.f k a0 a1) (spec_l1Split.f (k + 1) a0 a1) := by
  intro a0 a1 k
  have ih0 := spec_l1Split.mono_l k
  unfold spec_l1Split.f
  repeat' first
      | (with_reducible exact ih0 _ _ _ _ _)
      | (with_reducible exact LeO.refl _)
      | (with_reducible exact LeO.none _)
      | (with_reducible refine LeO.ite ?_ ?_)
      | (with_reducible refine LeO.bind ?_ (fun _ => ?_))
      | exact ih0 _ _ _ _ _
      | exact LeO.none _
      | refine LeO.ite ?_ ?_
      | refine LeO.bind ?_ (fun _ => ?_)

def spec_l1Split.e (k : Nat) : Refl.Ent G := ⟨115, [(.c .str), (.c (.int .u8))], .one (.c (.row 9 true)), fun x => spec_l1Split.f k x.1 x.2⟩
def spec_l1Split.pl0 : Refl.Pn G (Refl.PT G (spec_l1Split.e 0).ol) := ⟨true, 0, ⟨[(0, .v (.c .str)), (1, .v (.c (.int .u8))), (5, .v (.c (.row 9 true))), (6, .v (.c li)), (7, .v (.c li))], []⟩, fun k x => spec_l1Split.l0 k x.1 x.2.1 x.2.2.1 x.2.2.2.1 x.2.2.2.2⟩
theorem spec_l1Split.ok (k : Nat) : Refl.EntOK Tryz.prog (spec_l1Split.e k) := Refl.ent_ok 1000000 k GC (fun k => []) (fun k => trivial) Tryz.func115 (by kernel_rfl) [spec_l1Split.pl0] (ps := [spec_l1Split.pl0]) (by kernel_rfl) ⟨⟨fun x => by kernel_rfl, fun k x => by kernel_rfl⟩, trivial⟩ (fun x => by kernel_rfl)

/-! ### spec_l1Read: function 116 -/

mutual
def spec_l1Read.j0 : Nat → ByteArray → Bool → Option (Int)
  | 0, _, _ => none
  | k + 1, x0, x18 => if x18 = true then (some (-1)) else (spec_l1Read.l0 k x0 0 0)
def spec_l1Read.l0 : Nat → ByteArray → Int → Int → Option (Int)
  | 0, _, _, _ => none
  | k + 1, x0, x3, x4 => if x4 < (x0.size : Int) then (if 0 ≤ x4 then (if x4 < (x0.size : Int) then (if (bt x0 x4) < 48 then (some (-1)) else (if 0 ≤ x4 then (if x4 < (x0.size : Int) then (if (bt x0 x4) > 57 then (some (-1)) else (if 0 ≤ x4 then (if x4 < (x0.size : Int) then (spec_l1Read.l0 k x0 (wrap64 ((wrap64 (10 * x3)) + (wrap64 (((bt x0 x4) - 48) % 256)))) (wrap64 (x4 + 1))) else (none)) else (none))) else (none)) else (none))) else (none)) else (none)) else (some x3)
end

def spec_l1Read.f (k : Nat) (a0 : ByteArray) : Option (Int) := (spec_l1In.f (a0.size : Int) 1 6).bind fun t311 => (if t311 = true then (if 0 < (a0.size : Int) then (if (bt a0 0) = 48 then (spec_l1Read.j0 k a0 (decide ((a0.size : Int) > 1))) else (spec_l1Read.j0 k a0 false)) else (none)) else (spec_l1Read.j0 k a0 true))

theorem spec_l1Read.mono_l : ∀ k, (∀ y0 y1, LeO (spec_l1Read.j0 k y0 y1) (spec_l1Read.j0 (k + 1) y0 y1)) ∧ (∀ y0 y1 y2, LeO (spec_l1Read.l0 k y0 y1 y2) (spec_l1Read.l0 (k + 1) y0 y1 y2))
  | 0 => ⟨fun _ _ r h => by simp [spec_l1Read.j0] at h, fun _ _ _ r h => by simp [spec_l1Read.l0] at h⟩
  | k + 1 => by
    obtain ⟨ih0, ih1⟩ := spec_l1Read.mono_l k
    refine ⟨?_, ?_⟩
    · intro y0 y1
      unfold spec_l1Read.j0
      repeat' first
      | (with_reducible exact ih0 _ _)
      | (with_reducible exact ih1 _ _ _)
      | (with_reducible exact LeO.refl _)
      | (with_reducible exact LeO.none _)
      | (with_reducible refine LeO.ite ?_ ?_)
      | (with_reducible refine LeO.bind ?_ (fun _ => ?_))
      | exact ih0 _ _
      | exact ih1 _ _ _
      | exact LeO.none _
      | refine LeO.ite ?_ ?_
      | refine LeO.bind ?_ (fun _ => ?_)
    · intro y0 y1 y2
      unfold spec_l1Read.l0
      repeat' first
      | (with_reducible exact ih0 _ _)
      | (with_reducible exact ih1 _ _ _)
      | (with_reducible exact LeO.refl _)
      | (with_reducible exact LeO.none _)
      | (with_reducible refine LeO.ite ?_ ?_)
      | (with_reducible refine LeO.bind ?_ (fun _ => ?_))
      | exact ih0 _ _
      | exact ih1 _ _ _
      | exact LeO.none _
      | refine LeO.ite ?_ ?_
      | refine LeO.bind ?_ (fun _ => ?_)

theorem spec_l1Read.mono : ∀ a0 k, LeO (spec_l1Read.f k a0) (spec_l1Read.f (k + 1) a0) := by
  intro a0 k
  obtain ⟨ih0, ih1⟩ := spec_l1Read.mono_l k
  unfold spec_l1Read.f
  repeat' first
      | (with_reducible exact ih0 _ _)
      | (with_reducible exact ih1 _ _ _)
      | (with_reducible exact LeO.refl _)
      | (with_reducible exact LeO.none _)
      | (with_reducible refine LeO.ite ?_ ?_)
      | (with_reducible refine LeO.bind ?_ (fun _ => ?_))
      | exact ih0 _ _
      | exact ih1 _ _ _
      | exact LeO.none _
      | refine LeO.ite ?_ ?_
      | refine LeO.bind ?_ (fun _ => ?_)

def spec_l1Read.e (k : Nat) : Refl.Ent G := ⟨116, [(.c .str)], .one (.c li), fun x => spec_l1Read.f k x⟩
def spec_l1Read.pj0 : Refl.Pn G (Refl.PT G (spec_l1Read.e 0).ol) := ⟨false, 1000001, ⟨[(0, .v (.c .str)), (18, .v (.c .bool)), (2, .k (Value.int IntKind.i64 0))], []⟩, fun k x => spec_l1Read.j0 k x.1 x.2⟩
def spec_l1Read.pl0 : Refl.Pn G (Refl.PT G (spec_l1Read.e 0).ol) := ⟨true, 0, ⟨[(0, .v (.c .str)), (3, .v (.c li)), (4, .v (.c li)), (2, .k (Value.int IntKind.i64 0))], []⟩, fun k x => spec_l1Read.l0 k x.1 x.2.1 x.2.2⟩
theorem spec_l1Read.ok (k : Nat) : Refl.EntOK Tryz.prog (spec_l1Read.e k) := Refl.ent_ok 1000000 k GC (fun k => [spec_l1In.e k]) (fun k => ⟨spec_l1In.ok k, trivial⟩) Tryz.func116 (by kernel_rfl) [spec_l1Read.pj0, spec_l1Read.pl0] (ps := [spec_l1Read.pj0, spec_l1Read.pl0]) (by kernel_rfl) ⟨⟨fun x => by kernel_rfl, fun k x => by kernel_rfl⟩, ⟨fun x => by kernel_rfl, fun k x => by kernel_rfl⟩, trivial⟩ (fun x => by kernel_rfl)

/-! ### spec_mvParse: function 90 -/

mutual
def spec_mvParse.j0 : Nat → ByteArray → List ByteArray → ByteArray → Int → Option (ByteArray × Int × Bool)
  | 0, _, _, _, _ => none
  | k + 1, x0, x4, x318000, x318001 => if (x4.length : Int) = 2 then (if 1 < (x4.length : Int) then ((spec_l1Read.f k (rdOf ByteArray.empty x4 1)).bind fun t319 => (spec_mvParse.j1 k x0 x4 x318000 t319)) else (none)) else (spec_mvParse.j1 k x0 x4 x318000 x318001)
def spec_mvParse.j1 : Nat → ByteArray → List ByteArray → ByteArray → Int → Option (ByteArray × Int × Bool)
  | 0, _, _, _, _ => none
  | k + 1, x0, x4, x318000, x318001 => if (x4.length : Int) > 2 then (some ((⟨#[]⟩ : ByteArray), 0, false)) else ((spec_mvGood.f k x318000 x318001).bind fun t320 => (if t320 = true then ((spec_mvText.f k x318000 x318001).bind fun t321 => (if t321.toList = x0.toList then (some (x318000, x318001, true)) else (some ((⟨#[]⟩ : ByteArray), 0, false)))) else (some ((⟨#[]⟩ : ByteArray), 0, false))))
end

def spec_mvParse.f (k : Nat) (a0 : ByteArray) : Option (ByteArray × Int × Bool) := (spec_l1Split.f k a0 42).bind fun t313 => (if 0 < (t313.length : Int) then (if a0.toList = ([45] : List UInt8) then (spec_mvParse.j0 k a0 t313 (⟨#[]⟩ : ByteArray) 1) else (spec_mvParse.j0 k a0 t313 (rdOf ByteArray.empty t313 0) 1)) else (none))

theorem spec_mvParse.mono_l : ∀ k, (∀ y0 y1 y2 y3, LeO (spec_mvParse.j0 k y0 y1 y2 y3) (spec_mvParse.j0 (k + 1) y0 y1 y2 y3)) ∧ (∀ y0 y1 y2 y3, LeO (spec_mvParse.j1 k y0 y1 y2 y3) (spec_mvParse.j1 (k + 1) y0 y1 y2 y3))
  | 0 => ⟨fun _ _ _ _ r h => by simp [spec_mvParse.j0] at h, fun _ _ _ _ r h => by simp [spec_mvParse.j1] at h⟩
  | k + 1 => by
    obtain ⟨ih0, ih1⟩ := spec_mvParse.mono_l k
    refine ⟨?_, ?_⟩
    · intro y0 y1 y2 y3
      unfold spec_mvParse.j0
      repeat' first
      | (with_reducible exact ih0 _ _ _ _)
      | (with_reducible exact ih1 _ _ _ _)
      | (with_reducible exact spec_l1Read.mono _ _)
      | (with_reducible exact spec_l1Split.mono _ _ _)
      | (with_reducible exact spec_mvGood.mono _ _ _)
      | (with_reducible exact spec_mvText.mono _ _ _)
      | (with_reducible exact LeO.refl _)
      | (with_reducible exact LeO.none _)
      | (with_reducible refine LeO.ite ?_ ?_)
      | (with_reducible refine LeO.bind ?_ (fun _ => ?_))
      | exact ih0 _ _ _ _
      | exact ih1 _ _ _ _
      | exact spec_l1Read.mono _ _
      | exact spec_l1Split.mono _ _ _
      | exact spec_mvGood.mono _ _ _
      | exact spec_mvText.mono _ _ _
      | exact LeO.none _
      | refine LeO.ite ?_ ?_
      | refine LeO.bind ?_ (fun _ => ?_)
    · intro y0 y1 y2 y3
      unfold spec_mvParse.j1
      repeat' first
      | (with_reducible exact ih0 _ _ _ _)
      | (with_reducible exact ih1 _ _ _ _)
      | (with_reducible exact spec_l1Read.mono _ _)
      | (with_reducible exact spec_l1Split.mono _ _ _)
      | (with_reducible exact spec_mvGood.mono _ _ _)
      | (with_reducible exact spec_mvText.mono _ _ _)
      | (with_reducible exact LeO.refl _)
      | (with_reducible exact LeO.none _)
      | (with_reducible refine LeO.ite ?_ ?_)
      | (with_reducible refine LeO.bind ?_ (fun _ => ?_))
      | exact ih0 _ _ _ _
      | exact ih1 _ _ _ _
      | exact spec_l1Read.mono _ _
      | exact spec_l1Split.mono _ _ _
      | exact spec_mvGood.mono _ _ _
      | exact spec_mvText.mono _ _ _
      | exact LeO.none _
      | refine LeO.ite ?_ ?_
      | refine LeO.bind ?_ (fun _ => ?_)

theorem spec_mvParse.mono : ∀ a0 k, LeO (spec_mvParse.f k a0) (spec_mvParse.f (k + 1) a0) := by
  intro a0 k
  obtain ⟨ih0, ih1⟩ := spec_mvParse.mono_l k
  unfold spec_mvParse.f
  repeat' first
      | (with_reducible exact ih0 _ _ _ _)
      | (with_reducible exact ih1 _ _ _ _)
      | (with_reducible exact spec_l1Read.mono _ _)
      | (with_reducible exact spec_l1Split.mono _ _ _)
      | (with_reducible exact spec_mvGood.mono _ _ _)
      | (with_reducible exact spec_mvText.mono _ _ _)
      | (with_reducible exact LeO.refl _)
      | (with_reducible exact LeO.none _)
      | (with_reducible refine LeO.ite ?_ ?_)
      | (with_reducible refine LeO.bind ?_ (fun _ => ?_))
      | exact ih0 _ _ _ _
      | exact ih1 _ _ _ _
      | exact spec_l1Read.mono _ _
      | exact spec_l1Split.mono _ _ _
      | exact spec_mvGood.mono _ _ _
      | exact spec_mvText.mono _ _ _
      | exact LeO.none _
      | refine LeO.ite ?_ ?_
      | refine LeO.bind ?_ (fun _ => ?_)

def spec_mvParse.e (k : Nat) : Refl.Ent G := ⟨90, [(.c .str)], .tup [(.agg [.str, li]), (.c .bool)], fun x => spec_mvParse.f k x⟩
def spec_mvParse.pj0 : Refl.Pn G (Refl.PT G (spec_mvParse.e 0).ol) := ⟨false, 5, ⟨[(0, .v (.c .str)), (4, .v (.c (.row 9 false))), (5, .box 5 0), (2, .box 2 0), (3, .k (Value.bool false))], [(5, 51, gL2), (2, 51, gL3)]⟩, fun k x => spec_mvParse.j0 k x.1 x.2.1 x.2.2.1 x.2.2.2⟩
def spec_mvParse.pj1 : Refl.Pn G (Refl.PT G (spec_mvParse.e 0).ol) := ⟨false, 7, ⟨[(0, .v (.c .str)), (4, .v (.c (.row 9 false))), (5, .box 5 0), (2, .box 2 0), (3, .k (Value.bool false))], [(5, 51, gL2), (2, 51, gL3)]⟩, fun k x => spec_mvParse.j1 k x.1 x.2.1 x.2.2.1 x.2.2.2⟩
theorem spec_mvParse.ok (k : Nat) : Refl.EntOK Tryz.prog (spec_mvParse.e k) := Refl.ent_ok 1000000 k GC (fun k => [spec_l1Split.e k, spec_l1Read.e k, spec_mvGood.e k, spec_mvText.e k]) (fun k => ⟨spec_l1Split.ok k, spec_l1Read.ok k, spec_mvGood.ok k, spec_mvText.ok k, trivial⟩) Tryz.func90 (by kernel_rfl) [spec_mvParse.pj0, spec_mvParse.pj1] (ps := [spec_mvParse.pj0, spec_mvParse.pj1]) (by kernel_rfl) ⟨⟨fun x => by kernel_rfl, fun k x => by kernel_rfl⟩, ⟨fun x => by kernel_rfl, fun k x => by kernel_rfl⟩, trivial⟩ (fun x => by kernel_rfl)

/-! ### spec_ParseMove: function 40 -/

def spec_ParseMove.f (k : Nat) (a0 : ByteArray) : Option (ByteArray × Int × Bool) := (spec_mvParse.f k a0).bind fun bt323 => (some (bt323.1, bt323.2.1, bt323.2.2))

theorem spec_ParseMove.mono : ∀ a0 k, LeO (spec_ParseMove.f k a0) (spec_ParseMove.f (k + 1) a0) := by
  intro a0 k
  unfold spec_ParseMove.f
  repeat' first
      | (with_reducible exact spec_mvParse.mono _ _)
      | (with_reducible exact LeO.refl _)
      | (with_reducible exact LeO.none _)
      | (with_reducible refine LeO.ite ?_ ?_)
      | (with_reducible refine LeO.bind ?_ (fun _ => ?_))
      | exact spec_mvParse.mono _ _
      | exact LeO.none _
      | refine LeO.ite ?_ ?_
      | refine LeO.bind ?_ (fun _ => ?_)

def spec_ParseMove.e (k : Nat) : Refl.Ent G := ⟨40, [(.c .str)], .tup [(.agg [.str, li]), (.c .bool)], fun x => spec_ParseMove.f k x⟩
theorem spec_ParseMove.ok (k : Nat) : Refl.EntOK Tryz.prog (spec_ParseMove.e k) := Refl.ent_ok 1000000 k GC (fun k => [spec_mvParse.e k]) (fun k => ⟨spec_mvParse.ok k, trivial⟩) Tryz.func40 (by kernel_rfl) [] (ps := []) (by kernel_rfl) trivial (fun x => by kernel_rfl)

/-! ### spec_DrawSameMove: function 41 -/

def spec_DrawSameMove.j0 : Nat → Bool → List Int → Int → Int → ByteArray → Int → Option (ByteArray × Int × ByteArray × Int)
  | 0, _, _, _, _, _, _ => none
  | k + 1, x16, x329000, x329001, x329002, x335000, x335001 => if x16 = true then ((spec_mvNormal.f k x335000 x335001).bind fun bt340 => (some (x335000, x335001, bt340.1, bt340.2))) else ((spec_l1Cur_anyMove.f k x329000 x329001 x329002).bind fun bt342 => (some (x335000, x335001, bt342.1, bt342.2.1)))

def spec_DrawSameMove.f (k : Nat) (l0 : List Int) : Option (ByteArray × Int × ByteArray × Int) := (spec_l1Cur_anyMove.f k l0 0 0).bind fun bt329 => ((spec_mvGood.f k bt329.1 bt329.2.1).bind fun t335 => (if t335 = true then ((spec_l1Cur_one.f bt329.2.2.1 bt329.2.2.2.1 bt329.2.2.2.2 2).bind fun bt336 => (spec_DrawSameMove.j0 k bt336.1 bt336.2.1 bt336.2.2.1 bt336.2.2.2 bt329.1 bt329.2.1)) else (spec_DrawSameMove.j0 k false bt329.2.2.1 bt329.2.2.2.1 bt329.2.2.2.2 bt329.1 bt329.2.1)))

theorem spec_DrawSameMove.mono_l : ∀ k, (∀ y0 y1 y2 y3 y4 y5, LeO (spec_DrawSameMove.j0 k y0 y1 y2 y3 y4 y5) (spec_DrawSameMove.j0 (k + 1) y0 y1 y2 y3 y4 y5))
  | 0 => fun _ _ _ _ _ _ r h => by simp [spec_DrawSameMove.j0] at h
  | k + 1 => by
    have ih0 := spec_DrawSameMove.mono_l k
    · intro y0 y1 y2 y3 y4 y5
      unfold spec_DrawSameMove.j0
      repeat' first
      | (with_reducible exact ih0 _ _ _ _ _ _)
      | (with_reducible exact spec_l1Cur_anyMove.mono _ _ _ _)
      | (with_reducible exact spec_mvGood.mono _ _ _)
      | (with_reducible exact spec_mvNormal.mono _ _ _)
      | (with_reducible exact LeO.refl _)
      | (with_reducible exact LeO.none _)
      | (with_reducible refine LeO.ite ?_ ?_)
      | (with_reducible refine LeO.bind ?_ (fun _ => ?_))
      | exact ih0 _ _ _ _ _ _
      | exact spec_l1Cur_anyMove.mono _ _ _ _
      | exact spec_mvGood.mono _ _ _
      | exact spec_mvNormal.mono _ _ _
      | exact LeO.none _
      | refine LeO.ite ?_ ?_
      | refine LeO.bind ?_ (fun _ => ?_)

theorem spec_DrawSameMove.mono : ∀ a0 k, LeO (spec_DrawSameMove.f k a0) (spec_DrawSameMove.f (k + 1) a0) := by
  intro a0 k
  have ih0 := spec_DrawSameMove.mono_l k
  unfold spec_DrawSameMove.f
  repeat' first
      | (with_reducible exact ih0 _ _ _ _ _ _)
      | (with_reducible exact spec_l1Cur_anyMove.mono _ _ _ _)
      | (with_reducible exact spec_mvGood.mono _ _ _)
      | (with_reducible exact spec_mvNormal.mono _ _ _)
      | (with_reducible exact LeO.refl _)
      | (with_reducible exact LeO.none _)
      | (with_reducible refine LeO.ite ?_ ?_)
      | (with_reducible refine LeO.bind ?_ (fun _ => ?_))
      | exact ih0 _ _ _ _ _ _
      | exact spec_l1Cur_anyMove.mono _ _ _ _
      | exact spec_mvGood.mono _ _ _
      | exact spec_mvNormal.mono _ _ _
      | exact LeO.none _
      | refine LeO.ite ?_ ?_
      | refine LeO.bind ?_ (fun _ => ?_)

def spec_DrawSameMove.e (k : Nat) : Refl.Ent G := ⟨41, [(.c (.row 5 false))], .tup [(.agg [.str, li]), (.agg [.str, li])], fun x => spec_DrawSameMove.f k x⟩
def spec_DrawSameMove.pj0 : Refl.Pn G (Refl.PT G (spec_DrawSameMove.e 0).ol) := ⟨false, 1000003, ⟨[(16, .v (.c .bool)), (8, .box 8 0), (4, .box 8 0), (5, .box 5 0), (2, .box 2 0), (3, .box 3 0)], [(8, 66, gL1), (5, 51, gL2), (2, 51, gL3), (3, 51, gL3)]⟩, fun k x => spec_DrawSameMove.j0 k x.1 x.2.1 x.2.2.1 x.2.2.2.1 x.2.2.2.2.1 x.2.2.2.2.2⟩
theorem spec_DrawSameMove.ok (k : Nat) : Refl.EntOK Tryz.prog (spec_DrawSameMove.e k) := Refl.ent_ok 1000000 k GC (fun k => [spec_l1Cur_anyMove.e k, spec_mvGood.e k, spec_l1Cur_one.e k, spec_mvNormal.e k]) (fun k => ⟨spec_l1Cur_anyMove.ok k, spec_mvGood.ok k, spec_l1Cur_one.ok k, spec_mvNormal.ok k, trivial⟩) Tryz.func41 (by kernel_rfl) [spec_DrawSameMove.pj0] (ps := [spec_DrawSameMove.pj0]) (by kernel_rfl) ⟨⟨fun x => by kernel_rfl, fun k x => by kernel_rfl⟩, trivial⟩ (fun x => by kernel_rfl)

end Go.Proofs.YtgpkeclojbcgoaaGreatDoor.PA
