/- sync.Once in one goroutine, over the cells of a strings.Replacer: the lock is free, the function is called, once. -/
import Derived.Test.YtcicpmhcmlfhbaaGreatDoorBase
import Derived.Tactics2
import Derived.Defers
import Derived.Laws.Pointers
import Derived.Laws.LoneSync
import Derived.RegionTactic
import Derived.RegionCalls
import Derived.ChangeAlike
namespace Go.Proofs.YtcicpmhcmlfhbaaGreatDoor.PA
open Go.RowKit Go.Proofs.YtcicpmhcmlfhbaaGreatDoorW.PrintWords Go.Proofs.YtcicpmhcmlfhbaaGreatDoorW.PrintLast Go.Proofs.YtcicpmhcmlfhbaaGreatDoorW.PrintMore
set_option linter.unusedVariables false
set_option linter.unusedSimpArgs false
theorem mr_disable (w : World) : (callFunc 265 #[]).run Tryz.prog w = .ok (.value (.tuple #[])) w := run_call_mark0 Tryz.func265 (by kernel_rfl) (by kernel_rfl) (by kernel_rfl) .disable (by kernel_rfl) w
theorem mr_enable (w : World) : (callFunc 267 #[]).run Tryz.prog w = .ok (.value (.tuple #[])) w := run_call_mark0 Tryz.func267 (by kernel_rfl) (by kernel_rfl) (by kernel_rfl) .enable (by kernel_rfl) w
theorem mr_acquire (a : Addr) (w : World) : (callFunc 268 #[.pointer (some a)]).run Tryz.prog w = .ok (.value (.tuple #[])) w := run_call_marked Tryz.func268 (by kernel_rfl) (by kernel_rfl) (by kernel_rfl) .acquire (by kernel_rfl) a w
theorem mr_release (a : Addr) (w : World) : (callFunc 270 #[.pointer (some a)]).run Tryz.prog w = .ok (.value (.tuple #[])) w := run_call_marked Tryz.func270 (by kernel_rfl) (by kernel_rfl) (by kernel_rfl) .releaseMerge (by kernel_rfl) a w
/-- '(*sync/atomic.Bool).Store(true)', a deferred call. -/
theorem mr_store (a : Addr) (x : Value) (u : FrameMode) (w : World) (hc : w.cell? a = some x) (hz : w.frozen? a = false) :
    CallsD Tryz.prog 252 #[.pointer (some a), .bool true] u w fun e u' w' => u' = u ∧ (e = .returned (.tuple #[]) ∧ w' = w.drew.setCell a (.int .u32 1)) := by
  have hc' : w.drew.cell? a = some x := by go_simp
  have hz' : w.drew.frozen? a = false := by go_simp
  have hst := run_call_store (P := Tryz.prog) Tryz.func261 (by kernel_rfl) (by kernel_rfl) (by kernel_rfl) (by kernel_rfl) (k := .u32) (y := 1) hc' hz'
  go_enter_d Tryz.func252, Tryz.ntmps252
  go_wp2
  go_region_calls
  all_goals (go_end0; exact ⟨rfl, rfl⟩)
set_option maxRecDepth 100000 in
set_option maxHeartbeats 4000000 in
/-- '(*sync.Mutex).Unlock', a deferred call: the lock is held, nobody waits. -/
theorem mr_unlock (a : Addr) (u : FrameMode) (w : World) (hc : w.cell? a = some (.int .i32 1)) (hz : w.frozen? a = false) :
    CallsD Tryz.prog 251 #[.pointer (some a)] u w fun e u' w' => u' = u ∧ (e = .returned (.tuple #[]) ∧ w' = w.setCell a (.int .i32 0)) := by
  have hd := mr_disable
  have he := mr_enable
  have hr := mr_release
  have hadd := run_call_add (P := Tryz.prog) Tryz.func271 (by kernel_rfl) (by kernel_rfl) (by kernel_rfl) .i32 (by kernel_rfl) (y := -1) (s := 0) hc hz (by simp [go_sem]; rfl)
  have hcv := run_convert_to_unsafe (P := Tryz.prog) (src := 300) (dst := 262) Tryz.underlying300 Tryz.underlying262 (by kernel_rfl) hc
  go_enter_d Tryz.func251, Tryz.ntmps251
  go_wp2
  go_end0
  go_wp2
  go_end0
  exact ⟨rfl, rfl⟩
set_option maxRecDepth 100000 in
set_option maxHeartbeats 4000000 in
/-- '(*sync.Mutex).Lock', the lock free. -/
theorem mr_lock (a : Addr) (w : World) (hc : w.cell? a = some (.int .i32 0)) (hz : w.frozen? a = false) :
    Calls Tryz.prog 250 #[.pointer (some a)] w fun e w' => e = .returned (.tuple #[]) ∧ w' = w.setCell a (.int .i32 1) := by
  have hd := mr_disable
  have he := mr_enable
  have ha := mr_acquire
  have hcas := run_call_cas_hit (P := Tryz.prog) Tryz.func266 (by kernel_rfl) (by kernel_rfl) (by kernel_rfl) .i32 (by kernel_rfl) (y := 1) hc hz
  have hc' : (w.setCell a (.int .i32 1)).cell? a = some (.int .i32 1) := World.cell?_setCell_same w a _ hc
  have hcv := run_convert_to_unsafe (P := Tryz.prog) (src := 300) (dst := 262) Tryz.underlying300 Tryz.underlying262 (by kernel_rfl) hc'
  go_enter Tryz.func250, Tryz.ntmps250
  go_wp2
  first | go_end0 | (simp only [Exit.inBlock, Exit.then]; refine bodyPost_ret (results_none rfl _ _ _) rfl ?_) | refine bodyPost_ret (results_none rfl _ _ _) rfl ?_
  go_wp2
  go_end0
  exact ⟨rfl, rfl⟩
/-- The cells of a strings.Replacer: done, the lock's state, what is built, the pairs. -/
def RpB (w : World) (g : Nat) (d m : Int) (r o : Value) : Prop := w.heap[g]? = some (.cells #[.int .u32 d, .int .i32 m, .int .u32 0, r, o] 228 (0, 0))
/-- The four texts. -/
def Four (w : World) (bk : Nat) : Prop := w.cell? ⟨bk, 0, none⟩ = some (.string ⟨#[108]⟩) ∧ w.cell? ⟨bk, 1, none⟩ = some (.string ⟨#[114]⟩) ∧ w.cell? ⟨bk, 2, none⟩ = some (.string ⟨#[114]⟩) ∧ w.cell? ⟨bk, 3, none⟩ = some (.string ⟨#[108]⟩)
theorem four_set {w : World} {bk g i : Nat} {v : Value} (h : Four w bk) (hne : bk ≠ g) : Four (w.setCell ⟨g, i, none⟩ v) bk := by
  have hk : ∀ k, (w.setCell ⟨g, i, none⟩ v).cell? ⟨bk, k, none⟩ = w.cell? ⟨bk, k, none⟩ := fun k => World.cell?_setCell_other _ _ _ _ (fun e => hne (congrArg Addr.block e).symm)
  exact ⟨(hk 0).trans h.1, (hk 1).trans h.2.1, (hk 2).trans h.2.2.1, (hk 3).trans h.2.2.2⟩
theorem four_below {w w1 : World} {bk : Nat} (h : Four w bk) (hb : Below w.heap.size w w1) : Four w1 bk :=
  ⟨pw_cell_below hb h.1, pw_cell_below hb h.2.1, pw_cell_below hb h.2.2.1, pw_cell_below hb h.2.2.2⟩
/-- The byte for which a byte is exchanged. -/
def mirT (k : Nat) : Nat := if k = 108 then 114 else if k = 114 then 108 else k
/-- The table. -/
def Tab (cs : Array Value) : Prop := cs.size = 256 ∧ ∀ k, k < 256 → cs[k]? = some (.int .u8 (mirT k : Int))
/-- What has been built. -/
def RpD (w : World) (g : Nat) (d m : Int) : Prop := ∃ (gA : Nat) (cs : Array Value), RpB w g d m (.iface 274 (.pointer (some ⟨gA, 0, none⟩))) (.slice none 0 0) ∧ w.heap[gA]? = some (.cells cs 273 (0, 0)) ∧ Tab cs
theorem rpd_set0 {w : World} {g : Nat} {d m : Int} (h : RpD w g d m) (d' : Int) : RpD (w.setCell ⟨g, 0, none⟩ (.int .u32 d')) g d' m := by
  obtain ⟨gA, cs, h1, h2, h3⟩ := h
  unfold RpB at h1
  exact ⟨gA, cs, blk_put h1 0 _ rfl, blk_far h2 (blk_ne h2 h1 (by decide)) _, h3⟩
theorem rpd_set1 {w : World} {g : Nat} {d m : Int} (h : RpD w g d m) (m' : Int) : RpD (w.setCell ⟨g, 1, none⟩ (.int .i32 m')) g d m' := by
  obtain ⟨gA, cs, h1, h2, h3⟩ := h
  unfold RpB at h1
  exact ⟨gA, cs, blk_put h1 1 _ rfl, blk_far h2 (blk_ne h2 h1 (by decide)) _, h3⟩
set_option maxRecDepth 100000 in
set_option maxHeartbeats 4000000 in
/-- '(*sync.Once).doSlow': not yet done, the lock free. -/
theorem mr_slow (g c B bk : Nat) (w : World) (hb : RpB w g 0 0 .nilIface (.slice (some ⟨bk, 0, none⟩) 4 c)) (h4 : Four w bk) (hne : bk ≠ g) (hB : B ≤ g)
    (HF : ∀ W, RpB W g 0 1 .nilIface (.slice (some ⟨bk, 0, none⟩) 4 c) → Four W bk → Calls Tryz.prog 218 #[.pointer (some ⟨g, 0, none⟩)] W fun e w' => e = .returned (.tuple #[]) ∧ Below B W w' ∧ RpD w' g 0 1) :
    Calls Tryz.prog 237 #[.pointer (some ⟨g, 0, none⟩), .func (.func 218) #[.pointer (some ⟨g, 0, none⟩)] #[]] w fun e w' => e = .returned (.tuple #[]) ∧ Below B w w' ∧ RpD w' g 1 0 := by
  have c1 : w.cell? ⟨g, 1, none⟩ = some (.int .i32 0) := (blk_cell hb 1).trans rfl
  have f1 : w.frozen? ⟨g, 1, none⟩ = false := blk_frozen hb 1
  have HL := Aside0.mk (mr_lock ⟨g, 1, none⟩ w c1 f1)
  have HB1 : Aside0 (RpB (w.setCell ⟨g, 1, none⟩ (.int .i32 1)) g 0 1 .nilIface (.slice (some ⟨bk, 0, none⟩) 4 c)) := ⟨blk_put hb 1 _ rfl⟩
  have H41 : Aside0 (Four (w.setCell ⟨g, 1, none⟩ (.int .i32 1)) bk) := ⟨four_set h4 hne⟩
  have HBB : Aside0 (Below B w (w.setCell ⟨g, 1, none⟩ (.int .i32 1))) := ⟨(Below.refl B w).setCell hB _⟩
  have HF0 := Aside0.mk HF
  have HB := Aside0.mk hB
  have hnot : ∀ (x : Bool) (w : World), (Op.unary .not (.bool x)).run Tryz.prog w = .ok (.bool (!x)) w := fun _ _ => rfl
  generalize hw1 : w.setCell ⟨g, 1, none⟩ (.int .i32 1) = w1 at HL HB1 H41 HBB
  clear hw1 c1 f1 hb h4 hne hB HF
  have k0 : w1.cell? ⟨g, 0, none⟩ = some (.int .u32 0) := (blk_cell HB1.out 0).trans rfl
  have hl := run_call_load (P := Tryz.prog) Tryz.func249 (by kernel_rfl) (by kernel_rfl) (by kernel_rfl) .u32 (by kernel_rfl) k0
  go_enter_defers Tryz.func237, Tryz.ntmps237
  go_wp2_with (first | (go_at_call 250; refine HL.out.mono ?_; rintro e w' ⟨rfl, rfl⟩) | (go_at_call 236; go_in) | (go_at_call 218; refine (HF0.out _ HB1.out H41.out).mono ?_; rintro e w2 ⟨rfl, hbw, hrd⟩; have HD2 := Aside0.mk hrd; have HB2 := Aside0.mk (HBB.out.trans hbw); clear hrd hbw))
  have hd2 := HD2.out
  obtain ⟨gA, cs, hr2, _, _⟩ := HD2.out
  have e0 : w2.cell? ⟨g, 0, none⟩ = some (.int .u32 0) := (blk_cell hr2 0).trans rfl
  have z0 : w2.frozen? ⟨g, 0, none⟩ = false := blk_frozen hr2 0
  -- the two deferred calls, the last laid first
  refine leaves_cons (f := 252) (args := #[.pointer (some ⟨g, 0, none⟩), .bool true]) (by simp) (by simp [go_sem]) ?_
  refine (mr_store ⟨g, 0, none⟩ (.int .u32 0) .returning _ e0 z0).mono ?_
  rintro e u' w'' ⟨rfl, rfl, rfl⟩
  have hd3 : RpD (w2.drew.setCell ⟨g, 0, none⟩ (.int .u32 1)) g 1 1 := rpd_set0 (w := w2.drew) hd2 1
  have hb3 : Below B w (w2.drew.setCell ⟨g, 0, none⟩ (.int .u32 1)) := (below_drew1 HB2.out).setCell HB.out _
  generalize w2.drew.setCell ⟨g, 0, none⟩ (.int .u32 1) = w3 at hd3 hb3
  obtain ⟨gA', cs', hr3, _, _⟩ := hd3
  have e1 : w3.cell? ⟨g, 1, none⟩ = some (.int .i32 1) := (blk_cell hr3 1).trans rfl
  have z1 : w3.frozen? ⟨g, 1, none⟩ = false := blk_frozen hr3 1
  refine leaves_cons (f := 251) (args := #[.pointer (some ⟨g, 1, none⟩)]) (by simp [settle]) (by simp [go_sem]) ?_
  refine (mr_unlock ⟨g, 1, none⟩ _ _ e1 z1).mono ?_
  rintro e u' w'' ⟨rfl, rfl, rfl⟩
  have hd4 := rpd_set1 ⟨gA', cs', hr3, ‹_›, ‹_›⟩ 0
  have hb4 := Below.setCell (p := ⟨g, 1, none⟩) hb3 HB.out (.int .i32 0)
  simp [Leaves, settle, results, Tryz.results237]
  exact ⟨hb4, hd4⟩
end Go.Proofs.YtcicpmhcmlfhbaaGreatDoor.PA
