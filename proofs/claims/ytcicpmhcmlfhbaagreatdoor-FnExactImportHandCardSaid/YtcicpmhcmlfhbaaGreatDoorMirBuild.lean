/- (*strings.Replacer).build over the two pairs l, r and r, l: the table of bytes. -/
import Derived.Test.YtcicpmhcmlfhbaaGreatDoorMirSync
import Derived.IntWalk
namespace Go.Proofs.YtcicpmhcmlfhbaaGreatDoor.PA
open Go.RowKit Go.Proofs.YtcicpmhcmlfhbaaGreatDoorW.PrintWords Go.Proofs.YtcicpmhcmlfhbaaGreatDoorW.PrintLast Go.Proofs.YtcicpmhcmlfhbaaGreatDoorW.PrintMore
set_option linter.unusedVariables false
set_option linter.unusedSimpArgs false
def zs256 : Array Value := Array.replicate 256 (.int .u8 0)
/-- The table up to k. -/
def TabTo (cs : Array Value) (i : Nat) : Prop := cs.size = 256 ∧ ∀ k, k < i → cs[k]? = some (.int .u8 (k : Int))
theorem tabTo_zero {cs : Array Value} (h : cs.size = 256) : TabTo cs 0 := ⟨h, fun k hk => absurd hk (Nat.not_lt_zero k)⟩
theorem tabTo_succ {cs : Array Value} {i : Nat} (h : TabTo cs i) (hi : i < 256) : TabTo (cs.setIfInBounds i (.int .u8 (i : Int))) (i + 1) := by
  refine ⟨by rw [Array.size_setIfInBounds]; exact h.1, fun k hk => ?_⟩
  by_cases e : k = i
  · subst e; exact Array.getElem?_setIfInBounds_self_of_lt (by rw [h.1]; exact hi)
  · rw [Array.getElem?_setIfInBounds_ne (Ne.symm e)]; exact h.2 k (by omega)
/-- The table while the pairs are laid: none, one, both. -/
def tP (p k : Nat) : Nat := if p = 0 then k else if p = 1 then (if k = 114 then 108 else k) else mirT k
def TabP (p : Nat) (cs : Array Value) : Prop := cs.size = 256 ∧ ∀ k, k < 256 → cs[k]? = some (.int .u8 (tP p k : Int))
theorem tabP_of {cs : Array Value} (h : TabTo cs 256) : TabP 0 cs := h
theorem tabP_one {cs : Array Value} (h : TabP 0 cs) : TabP 1 (cs.setIfInBounds 114 (.int .u8 108)) := by
  refine ⟨by rw [Array.size_setIfInBounds]; exact h.1, fun k hk => ?_⟩
  by_cases e : k = 114
  · subst e; exact Array.getElem?_setIfInBounds_self_of_lt (by rw [h.1]; decide)
  · rw [Array.getElem?_setIfInBounds_ne (Ne.symm e), h.2 k hk]
    simp [tP, e]
theorem tabP_two {cs : Array Value} (h : TabP 1 cs) : TabP 2 (cs.setIfInBounds 108 (.int .u8 114)) := by
  refine ⟨by rw [Array.size_setIfInBounds]; exact h.1, fun k hk => ?_⟩
  by_cases e : k = 108
  · subst e; exact Array.getElem?_setIfInBounds_self_of_lt (by rw [h.1]; decide)
  · rw [Array.getElem?_setIfInBounds_ne (Ne.symm e), h.2 k hk]
    simp [tP, mirT, e]
theorem tab_of {cs : Array Value} (h : TabP 2 cs) : Tab cs := h
set_option maxRecDepth 100000 in
theorem mr_index (W : World) (gA i : Nat) (hi : i < 256) (k : IntKind) : (Instr.indexAt 273 (.pointer (some ⟨gA, 0, none⟩)) (.int k (i : Int))).run Tryz.prog W = .ok (.pointer (some ⟨gA, i, none⟩)) W := by
  rw [run_indexAt_array (h := Tryz.underlying273), if_pos ⟨by omega, by show (i : Int) < 256; omega⟩]
  show Result.ok _ _ = _
  show Result.ok (Value.pointer (some ((⟨gA, 0, none⟩ : Addr).add (i * 1)))) W = _
  rw [Nat.mul_one, add_plain]
theorem below_setCells {B : Nat} {w W : World} {g o : Nat} {vs : List Value} (h : Below B w W) (hg : B ≤ g) : Below B w (W.setCells g o vs) := by
  obtain ⟨s1, s2, s3, s4⟩ := setCells_same g vs o W
  exact h.trans ⟨s1, s2, s3, by rw [s4]; exact Nat.le_refl _, fun k hk => setCells_far vs o k (by omega)⟩
theorem run_zs {w1 : World} {gA : Nat} {t : TypeId} (hbox : w1.heap[gA]? = some (.cells zs256 t (0, 0))) : (storeCells ⟨gA, 0, none⟩ zs256.toList).run Tryz.prog w1 = .ok () (w1.setCells gA 0 zs256.toList) := by
  have hst := run_storeCells_cells (P := Tryz.prog) gA 0 zs256.toList 0 w1 (fun j hj => by rw [cell_of_row w1 gA _ zs256 t (0, 0) hbox]; simp at hj ⊢; exact hj) (fun j _ => blk_frozen hbox _) (fun q hq => by unfold zs256 at hq; rw [Array.toList_replicate] at hq; obtain ⟨_, rfl⟩ := List.mem_replicate.1 hq; rfl)
  simpa only [Nat.add_zero] using hst
/-- The state of the third loop. -/
def l3V (p : Nat) : Int := if p = 0 then 2 else if p = 1 then 0 else -2
def L3 (gA : Nat) (w0 : World) (kq : Nat) (v : Value) (W : World) : Prop := ∃ p : Nat, p ≤ 2 ∧ kq = 2 - p ∧ v = .int .i64 (l3V p) ∧ (∃ cs, W.heap[gA]? = some (.cells cs 273 (0, 0)) ∧ TabP p cs) ∧ Below w0.heap.size w0 W
set_option maxRecDepth 100000 in
set_option maxHeartbeats 8000000 in
theorem mr_build (g c bk : Nat) (w : World) (hc : w.cell? ⟨g, 4, none⟩ = some (.slice (some ⟨bk, 0, none⟩) 4 c)) (h4 : Four w bk) :
    Calls Tryz.prog 238 #[.pointer (some ⟨g, 0, none⟩)] w fun e w' => ∃ (gA : Nat) (cs : Array Value), e = .returned (.iface 274 (.pointer (some ⟨gA, 0, none⟩))) ∧ w'.heap[gA]? = some (.cells cs 273 (0, 0)) ∧ Tab cs ∧ Below w.heap.size w w' := by
  have H4 := Aside0.mk h4
  obtain ⟨q0, q1, q2, q3⟩ := h4
  go_enter Tryz.func238, Tryz.ntmps238
  go_wp2
  go_loop [4, 5] (fun al i => ∃ k : Nat, k ≤ 2 ∧ al = .bool true ∧ i = .int .i64 (2 * (k : Int))) (fun _ i => 4 - (intOf i).toNat)
  case atStart => exact ⟨0, by omega, rfl, rfl⟩
  case round =>
    obtain ⟨k, hk, rfl, rfl⟩ := hrel
    have : k = 0 ∨ k = 1 ∨ k = 2 := by omega
    rcases this with rfl | rfl | rfl
    · go_wp2
      go_round
      case rel => exact ⟨1, by omega, rfl, rfl⟩
      case measure => simp [intOf]
    · go_wp2
      go_round
      case rel => exact ⟨2, by omega, rfl, rfl⟩
      case measure => simp [intOf]
    · clear q0 q1 q2 q3 hc
      have HB := Aside0.mk (Below.refl w.heap.size w)
      go_wp2_with (first
        | ((with_reducible refine gate_dst (N := 60) rfl ?_); refine Kd.event_run rfl (v := .agg zs256) (w1 := w) ?hr ?_; (case hr => first | (go_simp; done) | (go_simp; rfl)))
        | ((with_reducible refine gate_dst (N := 6) rfl ?_); refine box_event ?hg (N := 6) ?hd (cs := zs256) (t := 273) ?hr ?_; (case hd => rfl); (case hg => rfl); (case hr => first | (go_simp; done) | (go_simp; rfl)); intro gA hgA w1 hbox hb; have hst := run_zs hbox; have HX := Aside0.mk hbox; have HG := Aside0.mk (show w.heap.size ≤ gA by rw [hgA]; exact Nat.le_refl _); have HB1 := Aside0.mk hb; clear hbox hgA hb)
        | ((with_reducible refine gate_store (p := 6) rfl ?_); refine store_event rfl (p := 6) rfl rfl (w1 := w1.setCells gA 0 zs256.toList) ?hr ?_; (case hr => first | (go_simp; done) | (go_simp; rfl)); intro w2 hw2; have HX2 := Aside0.mk (setCells_row zs256.toList 0 w1 zs256 HX.out (by simp [zs256])); have HB2 := Aside0.mk (below_setCells (vs := zs256.toList) (o := 0) HB1.out HG.out); rw [← hw2] at HX2 HB2; clear hw2 hst HX HB1))
      obtain ⟨cur, hx2, hsz2, _⟩ := HX2.out
      have HT0 : Aside0 (∃ cs, w2.heap[gA]? = some (.cells cs 273 (0, 0)) ∧ TabTo cs 0) := ⟨⟨cur, hx2, tabTo_zero (hsz2.trans (by simp [zs256]))⟩⟩
      clear hx2 hsz2 HX2 HB
      go_wp2
      go_loopg [61] (256) (fun kq v w' => ∃ i : Nat, v = .int .i64 (i : Int) ∧ Aside0 (i ≤ 256) ∧ Aside0 (kq = 256 - i) ∧ Aside0 (∃ cs, w'.heap[gA]? = some (.cells cs 273 (0, 0)) ∧ TabTo cs i) ∧ Aside0 (Below w.heap.size w w'))
      case atStart => exact ⟨0, rfl, ⟨by omega⟩, ⟨rfl⟩, HT0, HB2⟩
      case round =>
        clear HT0 HB2
        obtain ⟨i, rfl, HI, HK, HT, HD⟩ := hrel
        by_cases hlt : i < 256
        · obtain ⟨cs, hcs, htb⟩ := HT.out
          obtain ⟨u, hu⟩ : ∃ u, cs[i]? = some u := ⟨cs[i]'(by rw [htb.1]; exact hlt), Array.getElem?_eq_getElem _⟩
          have c0 : wr.cell? ⟨gA, i, none⟩ = some u := (blk_cell hcs i).trans hu
          have f0 : wr.frozen? ⟨gA, i, none⟩ = false := blk_frozen hcs i
          have HC := Aside0.mk hcs
          have HTB := Aside0.mk htb
          have hi := fun W => mr_index W gA i hlt .i64
          have e1 : IntKind.u8.wrap (i : Int) = (i : Int) := by simp [IntKind.wrap, IntKind.bits, IntKind.signed]; omega
          have e2 : (i : Int) % 256 = (i : Int) := by omega
          have hi0 : (0 : Int) ≤ (i : Int) := by omega
          have hi1 : (i : Int) < 256 := by omega
          clear hcs htb hu HT
          go_wp2
          go_roundg (256 - (i + 1))
          case measure => have := HK.out; omega
          case rel => exact ⟨i + 1, by first | rfl | (simp; done), ⟨by omega⟩, ⟨rfl⟩, ⟨⟨_, blk_set HC.out i _, tabTo_succ HTB.out hlt⟩⟩, ⟨HD.out.setCell HG.out _⟩⟩
        · have e : i = 256 := by have := HI.out; omega
          subst e
          clear HI HK hlt
          go_wp2
          go_loopg [8] (2) (fun kq v W => Aside0 (L3 gA w kq v W))
          case atStart => exact ⟨0, by omega, rfl, rfl, (by obtain ⟨cs, hcs, htb⟩ := HT.out; exact ⟨cs, hcs, htb⟩), HD.out⟩
          case round =>
            obtain ⟨p, hp, hk, hv, ⟨cs, hcs, htb⟩, hb⟩ := hrel.out
            clear hrel HT HD
            have H4r := four_below H4.out hb
            obtain ⟨q0, q1, q2, q3⟩ := H4r
            have hx0 := fun W => mr_index W gA 114 (by decide) .u8
            have hx1 := fun W => mr_index W gA 108 (by decide) .u8
            have h3 : p = 0 ∨ p = 1 ∨ p = 2 := by omega
            have HC := Aside0.mk hcs
            have HB := Aside0.mk hb
            have HK := Aside0.mk hk
            clear hb hk
            have e108 : (⟨#[108]⟩ : ByteArray)[0].toNat = 108 := rfl
            have e114 : (⟨#[114]⟩ : ByteArray)[0].toNat = 114 := rfl
            rcases h3 with rfl | rfl | rfl
            · have c0 : wr.cell? ⟨gA, 114, none⟩ = some (.int .u8 114) := (blk_cell hcs 114).trans (htb.2 114 (by decide))
              have f0 : wr.frozen? ⟨gA, 114, none⟩ = false := blk_frozen hcs 114
              have HTB := Aside0.mk htb
              have hv2 : _ = Value.int .i64 2 := hv
              clear hv hcs htb hp
              subst hv2
              go_wp2
              go_roundg (1)
              case measure => have := HK.out; omega
              case rel => exact ⟨1, by omega, rfl, rfl, ⟨_, blk_set HC.out 114 _, tabP_one HTB.out⟩, HB.out.setCell HG.out _⟩
            · have c0 : wr.cell? ⟨gA, 108, none⟩ = some (.int .u8 108) := (blk_cell hcs 108).trans (htb.2 108 (by decide))
              have f0 : wr.frozen? ⟨gA, 108, none⟩ = false := blk_frozen hcs 108
              have HTB := Aside0.mk htb
              have hv2 : _ = Value.int .i64 0 := hv
              clear hv hcs htb hp
              subst hv2
              go_wp2
              go_roundg (0)
              case measure => have := HK.out; omega
              case rel => exact ⟨2, by omega, rfl, rfl, ⟨_, blk_set HC.out 108 _, tabP_two HTB.out⟩, HB.out.setCell HG.out _⟩
            · have HTB := Aside0.mk htb
              have hv2 : _ = Value.int .i64 (-2) := hv
              clear hv hcs htb hp
              subst hv2
              go_wp2
              go_ret
              exact ⟨gA, cs, rfl, HC.out, HTB.out, HB.out⟩
set_option maxRecDepth 100000 in
set_option maxHeartbeats 4000000 in
theorem mr_buildOnce (g c B bk : Nat) (w : World) (hr : RpB w g 0 1 .nilIface (.slice (some ⟨bk, 0, none⟩) 4 c)) (h4 : Four w bk) (hB : B ≤ g) :
    Calls Tryz.prog 218 #[.pointer (some ⟨g, 0, none⟩)] w fun e w' => e = .returned (.tuple #[]) ∧ Below B w w' ∧ RpD w' g 0 1 := by
  unfold RpB at hr
  have HC := Aside0.mk (mr_build g c bk w ((blk_cell hr 4).trans rfl) h4)
  have HR := Aside0.mk hr
  have HG := Aside0.mk (blk_lt hr)
  have HB := Aside0.mk hB
  clear hr h4 hB
  go_enter Tryz.func218, Tryz.ntmps218
  go_wp2_with (go_at_call 238; refine HC.out.mono ?_; rintro e w2 ⟨gA, cs, rfl, hA, hT, hb⟩; have hr2 := blk_below HR.out hb; have k3 : w2.cell? ⟨g, 3, none⟩ = some .nilIface := (blk_cell hr2 3).trans rfl; have z3 : w2.frozen? ⟨g, 3, none⟩ = false := blk_frozen hr2 3; have k4 : w2.cell? ⟨g, 4, none⟩ = some (.slice (some ⟨bk, 0, none⟩) 4 c) := (blk_cell hr2 4).trans rfl; have z4 : w2.frozen? ⟨g, 4, none⟩ = false := blk_frozen hr2 4; have HA := Aside0.mk hA; have HT := Aside0.mk hT; have HB2 := Aside0.mk hb; have HR2 := Aside0.mk hr2; clear hA hT hb hr2)
  go_end0
  have hne := blk_ne HA.out HR2.out (by decide)
  exact ⟨rfl, ((HB2.out.mono (by have := HB.out; have := HG.out; omega)).setCell (p := ⟨g, 3, none⟩) HB.out _).setCell (p := ⟨g, 4, none⟩) HB.out _, gA, cs, blk_put (blk_put HR2.out 3 _ rfl) 4 _ rfl, blk_far (blk_far HA.out hne _) hne _, HT.out⟩
end Go.Proofs.YtcicpmhcmlfhbaaGreatDoor.PA
