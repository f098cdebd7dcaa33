/- strings.NewReplacer("l", "r", "r", "l").Replace: left and right are exchanged. -/
import Derived.Test.YtcicpmhcmlfhbaaGreatDoorMirBuild
import Derived.Laws.IdiomStrings
import Derived.Lib.SliceRun
namespace Go.Proofs.YtcicpmhcmlfhbaaGreatDoor.PA
open Go.RowKit Go.Proofs.YtcicpmhcmlfhbaaGreatDoorW.PrintWords Go.Proofs.YtcicpmhcmlfhbaaGreatDoorW.PrintLast Go.Proofs.YtcicpmhcmlfhbaaGreatDoorW.PrintMore
set_option linter.unusedVariables false
set_option linter.unusedSimpArgs false
def mirB (b : UInt8) : UInt8 := if b = 108 then 114 else if b = 114 then 108 else b
/-- Left and right exchanged. -/
def mirS (s : ByteArray) : ByteArray := ⟨s.data.map mirB⟩
theorem mirT_B (b : UInt8) : mirT b.toNat = (mirB b).toNat := by
  unfold mirT mirB
  by_cases h : b = 108
  · subst h; rfl
  · by_cases h' : b = 114
    · subst h'; rfl
    · have e : ¬ b.toNat = 108 := fun x => h (UInt8.toNat_inj.1 x)
      have e' : ¬ b.toNat = 114 := fun x => h' (UInt8.toNat_inj.1 x)
      rw [if_neg h, if_neg h', if_neg e, if_neg e']
set_option maxRecDepth 100000 in
set_option maxHeartbeats 4000000 in
theorem mr_do (g c B bk : Nat) (w : World) (hb : RpB w g 0 0 .nilIface (.slice (some ⟨bk, 0, none⟩) 4 c)) (h4 : Four w bk) (hne : bk ≠ g) (hB : B ≤ g) :
    Calls Tryz.prog 217 #[.pointer (some ⟨g, 0, none⟩), .func (.func 218) #[.pointer (some ⟨g, 0, none⟩)] #[]] w fun e w' => e = .returned (.tuple #[]) ∧ Below B w w' ∧ RpD w' g 1 0 := by
  have HS := Aside0.mk (mr_slow g c B bk w hb h4 hne hB (fun W h h' => mr_buildOnce g c B bk W h h' hB))
  have k0 : w.cell? ⟨g, 0, none⟩ = some (.int .u32 0) := (blk_cell hb 0).trans rfl
  have hl := run_call_load (P := Tryz.prog) Tryz.func249 (by kernel_rfl) (by kernel_rfl) (by kernel_rfl) .u32 (by kernel_rfl) k0
  have hnot : ∀ (x : Bool) (w : World), (Op.unary .not (.bool x)).run Tryz.prog w = .ok (.bool (!x)) w := fun _ _ => rfl
  clear hb h4 hne hB
  go_enter Tryz.func217, Tryz.ntmps217
  go_wp2_with (first | (go_at_call 237; refine HS.out.mono ?_; rintro e w2 ⟨rfl, hbw, hrd⟩; have HD2 := Aside0.mk hrd; have HB2 := Aside0.mk hbw; clear hrd hbw) | (go_at_call 236; go_in))
  go_end0
  exact ⟨rfl, HB2.out, HD2.out⟩
/-- The buffer: none yet, or the bytes as they are turned so far. -/
def Buf (B : Nat) (s : ByteArray) (i : Nat) (v : Value) (W : World) : Prop :=
  (v = .slice none 0 0 ∧ ∀ j (h : j < s.data.size), j < i → mirB s.data[j] = s.data[j]) ∨
  (∃ gb cap : Nat, v = .slice (some ⟨gb, 0, none⟩) s.size cap ∧ B ≤ gb ∧ ∀ j (h : j < s.data.size), W.cell? ⟨gb, j, none⟩ = some (.int .u8 ((if j < i then mirB s.data[j] else s.data[j]).toNat : Int)) ∧ W.frozen? ⟨gb, j, none⟩ = false)
theorem buf_same {B : Nat} {s : ByteArray} {i : Nat} {v : Value} {W : World} (h : Buf B s i v W) (hlt : i < s.data.size) (hm : mirB s.data[i] = s.data[i]) : Buf B s (i + 1) v W := by
  rcases h with ⟨hv, h0⟩ | ⟨gb, cap, hv, hB, hc⟩
  · refine .inl ⟨hv, fun j hj hji => ?_⟩
    rcases Nat.lt_or_eq_of_le (Nat.le_of_lt_succ hji) with h | rfl
    · exact h0 j hj h
    · exact hm
  · refine .inr ⟨gb, cap, hv, hB, fun j hj => ⟨?_, (hc j hj).2⟩⟩
    rw [(hc j hj).1]
    by_cases h1 : j < i
    · rw [if_pos h1, if_pos (by omega)]
    · by_cases h2 : j = i
      · subst h2; rw [if_neg h1, if_pos (by omega), hm]
      · rw [if_neg h1, if_neg (by omega)]
theorem buf_put {B : Nat} {s : ByteArray} {i gb cap : Nat} {W : World} (hlt : i < s.data.size) (hB : B ≤ gb) (hc : ∀ j (h : j < s.data.size), W.cell? ⟨gb, j, none⟩ = some (.int .u8 ((if j < i then mirB s.data[j] else s.data[j]).toNat : Int)) ∧ W.frozen? ⟨gb, j, none⟩ = false) :
    Buf B s (i + 1) (.slice (some ⟨gb, 0, none⟩) s.size cap) (W.setCell ⟨gb, i, none⟩ (.int .u8 ((mirB s.data[i]).toNat : Int))) := by
  refine .inr ⟨gb, cap, rfl, hB, fun j hj => ⟨?_, by rw [World.frozen?_setCell]; exact (hc j hj).2⟩⟩
  by_cases h2 : j = i
  · subst h2
    rw [World.cell?_setCell_same _ _ _ (hc j hj).1, if_pos (by omega)]
  · rw [World.cell?_setCell_other _ _ _ _ (fun e => h2 (congrArg Addr.off e).symm), (hc j hj).1]
    by_cases h1 : j < i
    · rw [if_pos h1, if_pos (by omega)]
    · rw [if_neg h1, if_neg (by omega)]
theorem mirS_size (s : ByteArray) : (mirS s).size = s.size := by
  show (s.data.map mirB).size = s.data.size
  simp
theorem mirS_id {s : ByteArray} (h : ∀ j (h : j < s.data.size), mirB s.data[j] = s.data[j]) : mirS s = s := by
  have e : s.data.map mirB = s.data := by
    apply Array.ext
    · simp
    · intro j h1 h2; rw [Array.getElem_map]; exact h j h2
  show (⟨s.data.map mirB⟩ : ByteArray) = s
  rw [e]
theorem bytes_event {P : Program} {ops : Array Oper} {rest : List Oper} {o : Oper} {a : Act} {Q : Exit → Act → World → Prop} {W : World} (s : ByteArray) (cap : Nat) (t : TypeId) (hgd : o.guard = none) {N : Tmp} (_hd : o.dst = some N)
    (hrun : (execOp a.eval o).run P W = .ok (.value (.slice (some ⟨W.heap.size, 0, none⟩) s.size cap)) (W.drew.alloc (.cells (bytesRow s cap) t ((bytesRow s cap).size, (bytesRow s cap).size + 1))))
    (h : ∀ gb, W.heap.size = gb → ∀ w1, (∀ j (h : j < s.data.size), w1.cell? ⟨gb, j, none⟩ = some (.int .u8 (s.data[j].toNat : Int)) ∧ w1.frozen? ⟨gb, j, none⟩ = false) → Below W.heap.size W w1 → wpList P ops Q rest (a.put o.dst (.slice (some ⟨gb, 0, none⟩) s.size cap)) w1) : wpList P ops Q (o :: rest) a W := by
  refine Kd.event_run hgd hrun (h _ rfl _ (fun j hj => ?_) ((below_drew1 (Below.refl _ _)).alloc (Nat.le_refl _) _))
  have e : (bytesRow s cap)[j]? = some (.int .u8 (s.data[j].toNat : Int)) := bytesRow_at s cap j hj
  have hj' : j < (bytesRow s cap).size := (Array.getElem?_eq_some_iff.1 e).1
  refine ⟨(World.cell?_alloc_mark W.drew _ _ _ j).trans e, (World.frozen?_alloc_mark W.drew _ _ _ _ j).trans ?_⟩
  rw [decide_eq_false (by omega)]; rfl
set_option maxRecDepth 100000 in
set_option maxHeartbeats 8000000 in
theorem mr_bytes (gA : Nat) (cs : Array Value) (s : ByteArray) (w : World) (hs : s.size ≤ 1000000) (hA : w.heap[gA]? = some (.cells cs 273 (0, 0))) (hT : Tab cs) :
    Calls Tryz.prog 309 #[.pointer (some ⟨gA, 0, none⟩), .string s] w fun e w' => e = .returned (.string (mirS s)) ∧ Below w.heap.size w w' := by
  have HA := Aside0.mk hA
  have HT := Aside0.mk hT
  have HB := Aside0.mk (Below.refl w.heap.size w)
  have HU : Aside0 (Buf w.heap.size s 0 (.slice none 0 0) w) := ⟨.inl ⟨rfl, fun j _ h => absurd h (Nat.not_lt_zero j)⟩⟩
  have hq := fun (W : World) a n c => Lib.run_eql_slice_nil (P := Tryz.prog) W 36 5 a n c 0 0 Tryz.underlying36
  have hs1 : (s.size : Int) ≤ 9223372036854775807 := by omega
  have HS := Aside0.mk hs
  clear hA hT hs
  go_enter Tryz.func309, Tryz.ntmps309
  go_wp2
  go_loopg [5, 6] (s.size) (fun kq v5 v6 W => ∃ i : Nat, v6 = .int .i64 (i : Int) ∧ Aside0 (i ≤ s.size) ∧ Aside0 (kq = s.size - i) ∧ Aside0 (Buf w.heap.size s i v5 W) ∧ Aside0 (Below w.heap.size w W))
  case atStart => exact ⟨0, rfl, ⟨by omega⟩, ⟨rfl⟩, HU, HB⟩
  case round =>
    clear HU HB
    obtain ⟨i, rfl, HI, HK, HU, HD⟩ := hrel
    have hss := HS.out
    by_cases hlt : i < s.size
    · obtain ⟨b, hb⟩ : ∃ b, s[i] = b := ⟨_, rfl⟩
      have hb' : s.data[i] = b := hb
      have HBB := Aside0.mk hb'
      have hA2 := blk_below HA.out HD.out
      have hx := fun W => mr_index W gA b.toNat (UInt8.toNat_lt b) .u8
      have cA : wr.cell? ⟨gA, b.toNat, none⟩ = some (.int .u8 ((mirB b).toNat : Int)) := ((blk_cell hA2 b.toNat).trans (HT.out.2 _ (UInt8.toNat_lt b))).trans (by rw [mirT_B])
      have HA2 := Aside0.mk hA2
      have hi0 : (0 : Int) ≤ (i : Int) := by omega
      have hi1 : (i : Int) < (s.size : Int) := by omega
      by_cases hm : mirB b = b
      · rw [hm] at cA
        clear hb' hA2 hss
        go_wp2
        go_roundg (s.size - (i + 1))
        case measure => have := HK.out; omega
        case rel =>
          refine ⟨i + 1, by first | rfl | (simp; done), ⟨by omega⟩, ⟨rfl⟩, ⟨?_⟩, HD⟩
          exact buf_same HU.out hlt (by rw [HBB.out]; exact hm)
      · have hd : (((mirB b).toNat : Int) != (b.toNat : Int)) = true := by
          rw [bne_iff_ne]; intro e; exact hm (UInt8.toNat_inj.1 (by omega))
        have HM := Aside0.mk hm
        clear hA2 hss hm
        rcases HU.out with ⟨rfl, h0⟩ | ⟨gb, cap, rfl, hB, hc⟩
        · have hcv := run_bytes_of_string (P := Tryz.prog) wr 9 36 5 s Tryz.underlying9 Tryz.underlying36 Tryz.underlying5
          have H0 := Aside0.mk h0
          have HL := Aside0.mk hlt
          clear h0 hb'
          go_wp2_with ((with_reducible refine gate_dst (N := 27) rfl ?_); refine bytes_event s (grownCap wr s.size 0 5) 5 ?hg (N := 27) ?hd ?hr ?_; (case hd => rfl); (case hg => rfl); (case hr => first | (go_simp; done) | (go_simp; rfl)); intro gb hgb w1 hcell hbw; have c1 : w1.cell? ⟨gb, i, none⟩ = some (.int .u8 (b.toNat : Int)) := (hcell i HL.out).1.trans (by rw [HBB.out]); have z1 : w1.frozen? ⟨gb, i, none⟩ = false := (hcell i HL.out).2; have cA1 : w1.cell? ⟨gA, b.toNat, none⟩ = some (.int .u8 ((mirB b).toNat : Int)) := pw_cell_below hbw cA; have HCE := Aside0.mk hcell; have HG := Aside0.mk (show w.heap.size ≤ gb by rw [← hgb]; exact below_size HD.out); have HB1 := Aside0.mk (below_step HD.out hbw); clear hcell hgb hbw hcv cA)
          go_roundg (s.size - (i + 1))
          case measure => have := HK.out; have := HL.out; omega
          case rel =>
            refine ⟨i + 1, by first | rfl | (simp; done), ⟨by have := HL.out; omega⟩, ⟨rfl⟩, ⟨?_⟩, ⟨HB1.out.setCell HG.out _⟩⟩
            have hp := buf_put (B := w.heap.size) (cap := grownCap wr s.size 0 5) HL.out HG.out (W := w1) (fun j hj => ⟨by
              rw [(HCE.out j hj).1]
              by_cases h1 : j < i
              · rw [if_pos h1, H0.out j hj h1]
              · rw [if_neg h1], (HCE.out j hj).2⟩)
            rw [HBB.out] at hp
            exact hp
        · have c1 : wr.cell? ⟨gb, i, none⟩ = some (.int .u8 (b.toNat : Int)) := (hc i hlt).1.trans (by rw [if_neg (by omega), hb'])
          have z1 : wr.frozen? ⟨gb, i, none⟩ = false := (hc i hlt).2
          have HC := Aside0.mk hc
          have HG := Aside0.mk hB
          have HL := Aside0.mk hlt
          clear hc hB hb'
          go_wp2
          go_roundg (s.size - (i + 1))
          case measure => have := HK.out; have := HL.out; omega
          case rel =>
            refine ⟨i + 1, by first | rfl | (simp; done), ⟨by have := HL.out; omega⟩, ⟨rfl⟩, ⟨?_⟩, ⟨HD.out.setCell HG.out _⟩⟩
            have hp := buf_put (B := w.heap.size) (cap := cap) HL.out HG.out HC.out
            rw [HBB.out] at hp
            exact hp
    · have e : i = s.size := by have := HI.out; omega
      subst e
      clear HI HK hlt hss
      rcases HU.out with ⟨rfl, h0⟩ | ⟨gb, cap, rfl, hB, hc⟩
      · have HE := Aside0.mk (mirS_id (fun j hj => h0 j hj hj))
        clear h0
        go_wp2
        go_ret
        exact ⟨by have e := HE.out; show Ending.returned (Value.string s) = Ending.returned (Value.string (mirS s)); rw [e], HD.out⟩
      · have hl : (mirS s).data.toList.length = s.size := by rw [Array.length_toList]; exact mirS_size s
        have hback := run_convert_bytes_back (P := Tryz.prog) wr 36 9 5 ⟨gb, 0, none⟩ cap (mirS s).data.toList Tryz.underlying36 Tryz.underlying5 Tryz.underlying9 (fun j hj => by
          have hj' : j < s.data.size := by rw [hl] at hj; exact hj
          rw [add_plain, (hc j hj').1, if_pos (show j < s.size from hj')]
          congr 3
          show _ = ((s.data.map mirB).toList[j]).toNat
          simp)
        rw [hl] at hback
        have hback2 : (convert 36 9 (.slice (some ⟨gb, 0, none⟩) s.size cap)).run Tryz.prog wr = .ok (.string (mirS s)) wr := hback
        clear hback hl hc hB
        go_wp2
        go_ret
        exact ⟨rfl, HD.out⟩
def fourL : List ByteArray := [⟨#[108]⟩, ⟨#[114]⟩, ⟨#[114]⟩, ⟨#[108]⟩]
theorem four_C {w : World} {b4 t : Nat} (hb : w.heap[b4]? = some (.cells #[.string ⟨#[108]⟩, .string ⟨#[114]⟩, .string ⟨#[114]⟩, .string ⟨#[108]⟩] t (0, 0))) : Kd.C Kd.string w (some ⟨b4, 0, none⟩) 4 fourL := by
  refine Kd.C_of_reads (d := ByteArray.empty) ⟨rfl, by omega, fun _ => ⟨_, rfl, fun j hj => ?_⟩⟩
  rw [add_plain]
  have : j = 0 ∨ j = 1 ∨ j = 2 ∨ j = 3 := by omega
  rcases this with rfl | rfl | rfl | rfl <;> exact (blk_cell hb _).trans rfl
theorem own_four {e : Nat} {W : World} {base : Nat} {ok : Nat → Prop} {v : Value} (h : Kd.R Kd.string e W base ok v fourL) : ∃ gb cap, v = .slice (some ⟨gb, 0, none⟩) 4 cap ∧ Four W gb ∧ gb < W.heap.size := by
  obtain ⟨_, ⟨_, hz⟩ | ⟨gb, cap, cur, hv, _, hblk, hn, _, _, htk⟩⟩ := Kd.own_of_R h
  · cases hz
  · refine ⟨gb, cap, hv, ?_, blk_lt hblk⟩
    have hk : ∀ k (u : Value), ([Value.string ⟨#[108]⟩, .string ⟨#[114]⟩, .string ⟨#[114]⟩, .string ⟨#[108]⟩] : List Value)[k]? = some u → W.cell? ⟨gb, k, none⟩ = some u := fun k u hu => by
      rw [blk_cell hblk k, ← Array.getElem?_toList]
      have h2 : (cur.toList.take (fourL.length * 1))[k]? = some u := by rw [htk]; exact hu
      rw [List.getElem?_take] at h2
      split at h2
      · exact h2
      · cases h2
    exact ⟨hk 0 _ rfl, hk 1 _ rfl, hk 2 _ rfl, hk 3 _ rfl⟩
theorem mr_info : (Tryz.prog.info? 9).map (fun i => (i.zero, i.size, i.bytes)) = some (some (.string ⟨#[]⟩), 1, 16) := by kernel_rfl
set_option maxRecDepth 100000 in
set_option maxHeartbeats 4000000 in
theorem mr_new (b4 t : Nat) (w : World) (hb : w.heap[b4]? = some (.cells #[.string ⟨#[108]⟩, .string ⟨#[114]⟩, .string ⟨#[114]⟩, .string ⟨#[108]⟩] t (0, 0))) :
    Calls Tryz.prog 197 #[.slice (some ⟨b4, 0, none⟩) 4 4] w fun e w' => ∃ g bk c : Nat, e = .returned (.pointer (some ⟨g, 0, none⟩)) ∧ RpB w' g 0 0 .nilIface (.slice (some ⟨bk, 0, none⟩) 4 c) ∧ Four w' bk ∧ bk ≠ g ∧ w.heap.size ≤ g ∧ Below w.heap.size w w' := by
  have HR0 := Aside0.mk (four_C hb)
  have HB := Aside0.mk (Below.refl w.heap.size w)
  clear hb
  go_enter Tryz.func197, Tryz.ntmps197
  go_wp2_with (first
    | ((with_reducible refine gate_builtin (b := .append) (xs := #[.const (.slice none 0 0), .tmp 8]) rfl ?_); at_builtin; refine Kd.R_append_rows Kd.string (w0 := w) w.heap.size rfl (.const (.slice none 0 0)) (.tmp 8) 50 9 (.string ⟨#[]⟩) 16 rfl Tryz.underlying50 mr_info rfl (by decide) (by omega) (.slice none 0 0) [] fourL _ _ _ (fun _ => True) (fun _ => False) rfl rfl ?aO ?aR (fun _ _ h => h) (fun _ h => h.elim) ?aF ?aB ?aS ?aL ?_; (case aR => exact HR0.out); (case aB => exact HB.out); (case aF => exact (fun _ _ => trivial)); (case aO => exact Kd.R_nil _ _ _ _ _); (case aS => exact Nat.le_refl _); (case aL => simp [fourL]); intro v2 w6 ho hb hg hat; obtain ⟨bk, cp, rfl, h4, hlt⟩ := own_four ho; have H4 := Aside0.mk h4; have HL := Aside0.mk hlt; have HB6 := Aside0.mk hb; clear ho hb hg hat h4 hlt HB)
    | ((with_reducible refine gate_dst (N := 11) rfl ?_); refine box_event ?hg (N := 11) ?hd (cs := #[.int .u32 0, .int .i32 0, .int .u32 0, .nilIface, .slice (some ⟨bk, 0, none⟩) 4 cp]) (t := 228) ?hr ?_; (case hd => rfl); (case hg => rfl); (case hr => first | (go_simp; done) | (go_simp; rfl)); intro g hg w7 hbox hb7; have H7 := Aside0.mk (four_below H4.out hb7); have HN := Aside0.mk (show bk ≠ g by have := HL.out; omega); have HG := Aside0.mk (show w.heap.size ≤ g by have := below_size HB6.out; omega); have HX := Aside0.mk hbox; have HB7 := Aside0.mk (below_step HB6.out hb7); clear hbox hb7 hg H4 HL HB6))
  go_ret
  exact ⟨g, bk, cp, rfl, HX.out, H7.out, HN.out, HG.out, HB7.out⟩
set_option maxRecDepth 100000 in
set_option maxHeartbeats 4000000 in
theorem mr_replace (g c B bk : Nat) (s : ByteArray) (w : World) (hb : RpB w g 0 0 .nilIface (.slice (some ⟨bk, 0, none⟩) 4 c)) (h4 : Four w bk) (hne : bk ≠ g) (hB : B ≤ g) (hs : s.size ≤ 1000000) :
    Calls Tryz.prog 198 #[.pointer (some ⟨g, 0, none⟩), .string s] w fun e w' => e = .returned (.string (mirS s)) ∧ Below B w w' := by
  have HO := Aside0.mk (mr_do g c B bk w hb h4 hne hB)
  have HBG := Aside0.mk (show B ≤ w.heap.size by have := blk_lt hb; omega)
  have HS := Aside0.mk hs
  have hmf : ∀ (fn : Fn) (first cap : Array Value) (w : World), (Instr.makeFunc fn first cap).run Tryz.prog w = .ok (.func fn first cap) w := fun _ _ _ _ => rfl
  have hm : ∀ (gA : Nat) (w : World), (method 438 274 (.pointer (some ⟨gA, 0, none⟩)) "Replace").run Tryz.prog w = .ok (309, .pointer (some ⟨gA, 0, none⟩)) w := fun _ _ => by kernel_rfl
  clear hb h4 hne hB hs
  go_enter Tryz.func198, Tryz.ntmps198
  go_wp2_with (first
    | (go_at_call 217; refine HO.out.mono ?_; rintro e w2 ⟨rfl, hbw, gA, cs, hr2, hA2, hT2⟩; have k3 : w2.cell? ⟨g, 3, none⟩ = some (.iface 274 (.pointer (some ⟨gA, 0, none⟩))) := (blk_cell hr2 3).trans rfl; have HY := Aside0.mk (fun s hs => mr_bytes gA cs s w2 hs hA2 hT2); have HB2 := Aside0.mk hbw; clear hbw hr2 hA2 hT2)
    | (go_at_call 309; refine (HY.out s HS.out).mono ?_; rintro e w3 ⟨rfl, hbw3⟩; have HB3 := Aside0.mk hbw3; clear hbw3))
  go_ret
  exact ⟨rfl, HB2.out.trans (HB3.out.mono (Nat.le_trans HBG.out HB2.out.size))⟩
end Go.Proofs.YtcicpmhcmlfhbaaGreatDoor.PA
