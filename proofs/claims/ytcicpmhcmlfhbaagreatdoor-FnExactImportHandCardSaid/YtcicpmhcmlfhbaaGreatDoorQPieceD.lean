/- The fold over the pieces of an import text: both sides. (Written by tools/gen_piece2.py.) -/
import Derived.Test.YtcicpmhcmlfhbaaGreatDoorQPieceC
namespace Go.Proofs.YtcicpmhcmlfhbaaGreatDoor.PA
open Go.RowKit Go.Proofs.YtcicpmhcmlfhbaaGreatDoorW.PrintWords Go.Proofs.YtcicpmhcmlfhbaaGreatDoorW.PrintLast Go.Proofs.YtcicpmhcmlfhbaaGreatDoorW.PrintMore
set_option linter.unusedVariables false
set_option linter.unusedSimpArgs false
def stepW (z : HdI) (x : ByteArray) : HdI := if x.toList = [] then (z.1, Go.bits .or .i64 z.2 0) else ((pcV z.1 x).2, Go.bits .or .i64 z.2 (pcV z.1 x).1)
theorem bsl (a : List UInt8) : (bsOf a).toList = a := by rw [← bs_list, bsOf_list]
theorem btl_at {x : ByteArray} {l : List UInt8} (h : x.data.toList = l) (i : Nat) (hi : i < l.length) : bt x (i : Int) = ((l[i]).toNat : Int) := by
  have hl := bs_len x
  rw [h] at hl
  rw [bt_list x i (by omega)]
  congr 2
  exact List.getElem_of_eq h _
theorem pc_16 (z : HdI) (x : ByteArray) (h : pcV z.1 x = (16, z.1)) : imNV z x = stepW z x := by
  unfold imNV stepW
  rw [h]
theorem imC_eq (z : HdI) (x : ByteArray) : imC_ z x (ctV x 61).1 (ctV x 61).2.1 = stepW z x := by
  have hlen := bs_len x
  rcases first_at 61 x.data.toList with h | ⟨a, b, h, ha⟩
  · rw [ct61_no h]
    have hp : pcV z.1 x = (16, z.1) := by
      unfold pcV
      by_cases h2 : x.size < 2
      · rw [if_pos (.inl h2)]
      · refine if_pos (.inr fun e => h ?_)
        have := btl_at (x := x) rfl 1 (by omega)
        have e1 : bt x ((1 : Nat) : Int) = 61 := e
        rw [e1] at this
        have : (x.data.toList[1]'(by omega)) = 61 := UInt8.toNat_inj.1 (by show _ = 61; omega)
        rw [← this]
        exact List.getElem_mem _
    rw [← pc_16 z x hp]
    unfold imC_
    simp only [sh_none, or_none, old_none, pl_none, mv_none, shNo]
    split
    · rfl
    · split
      · rfl
      · split
        · rfl
        · split <;> rfl
  · rw [ct61_at h ha]
    by_cases ha1 : ∃ c, a = [c]
    · obtain ⟨c, rfl⟩ := ha1
      have h' : x.data.toList = c :: 61 :: b := h
      rw [h'] at hlen
      simp only [List.length_cons] at hlen
      have b0 : bt x 0 = (c.toNat : Int) := btl_at h' 0 (by simp)
      have b1 : bt x 1 = 61 := btl_at h' 1 (by simp)
      have hx2 : x.extract 2 x.size = bsOf b := (cut_ext h).2
      have hne : ¬ x.toList = [] := by rw [← bs_list, h']; simp
      have ek : ∀ n : UInt8, ((bsOf [c]).toList = [n]) ↔ ((c.toNat : Int) = (n.toNat : Int)) := fun n => by
        rw [bsl]
        constructor
        · intro e; rw [List.cons.injEq] at e; rw [e.1]
        · intro e; rw [UInt8.toNat_inj.1 (by omega : c.toNat = n.toNat)]
      unfold stepW pcV imC_
      rw [if_neg hne, if_neg (show ¬ (x.size < 2 ∨ bt x 1 ≠ 61) by omega), b0, hx2]
      have e1 := ek 83
      have e2 := ek 79
      have e3 := ek 80
      have e4 := ek 77
      unfold pcL imNV
      rw [if_neg hne]
      simp only [e1, e2, e3, e4]
      have n1 : (((83 : UInt8).toNat : Nat) : Int) = 83 := rfl
      have n2 : (((79 : UInt8).toNat : Nat) : Int) = 79 := rfl
      have n3 : (((80 : UInt8).toNat : Nat) : Int) = 80 := rfl
      have n4 : (((77 : UInt8).toNat : Nat) : Int) = 77 := rfl
      rw [n1, n2, n3, n4]
      split
      · split <;> rfl
      · split
        · split <;> rfl
        · split
          · split
            · rfl
            · split <;> rfl
          · split
            · split <;> rfl
            · rfl
    · have hp : pcV z.1 x = (16, z.1) := by
        unfold pcV
        by_cases hh : x.size < 2 ∨ bt x 1 ≠ 61
        · rw [if_pos hh]
        · rw [if_neg hh]
          have hb : bt x ((1 : Nat) : Int) = 61 := by
            have : ¬ bt x 1 ≠ 61 := fun e => hh (.inr e)
            show bt x 1 = 61
            omega
          match a, h, ha, ha1 with
          | [], h, _, _ =>
            have b0 : bt x 0 = 61 := btl_at (show x.data.toList = 61 :: b from h) 0 (by simp)
            unfold pcL
            rw [b0]
            rfl
          | [c], _, _, ha1 => exact (ha1 ⟨c, rfl⟩).elim
          | c :: d :: a', h, ha, _ =>
            have := btl_at (show x.data.toList = c :: d :: (a' ++ 61 :: b) from h) 1 (by simp)
            rw [hb] at this
            have e : d = 61 := UInt8.toNat_inj.1 (by
              have t : (61 : Int) = (d.toNat : Int) := this
              show d.toNat = 61
              omega)
            exact (ha (by rw [e]; simp)).elim
      rw [← pc_16 z x hp]
      unfold imC_
      rw [if_neg (fun e => ha1 ⟨83, by rw [bsl] at e; exact e⟩), if_neg (fun e => ha1 ⟨79, by rw [bsl] at e; exact e⟩), if_neg (fun e => ha1 ⟨80, by rw [bsl] at e; exact e⟩), if_neg (fun e => ha1 ⟨77, by rw [bsl] at e; exact e⟩)]
def okP (p : Int) : Prop := 0 ≤ p ∧ p < 32
theorem or_fin : ∀ n : Fin 32, Go.bits .or .i64 (n.val : Int) 0 = (n.val : Int) ∧ ∀ q ∈ ([1, 2, 4, 8, 16] : List Int), 0 ≤ Go.bits .or .i64 (n.val : Int) q ∧ Go.bits .or .i64 (n.val : Int) q < 32 := by
  decide +kernel
theorem or0 {p : Int} (h : okP p) : Go.bits .or .i64 p 0 = p := by
  have := (or_fin ⟨p.toNat, by have := h.1; have := h.2; omega⟩).1
  simp only [] at this
  rwa [Int.toNat_of_nonneg h.1] at this
theorem orQ {p q : Int} (h : okP p) (hq : q ∈ ([1, 2, 4, 8, 16] : List Int)) : okP (Go.bits .or .i64 p q) := by
  have := (or_fin ⟨p.toNat, by have := h.1; have := h.2; omega⟩).2 q hq
  simp only [] at this
  rwa [Int.toNat_of_nonneg h.1] at this
theorem pcV_in (h : T13) (x : ByteArray) : (pcV h x).1 ∈ ([1, 2, 4, 8, 16] : List Int) := by
  unfold pcV pcL
  repeat' split
  all_goals simp
def stepV (z : HdI) (x : ByteArray) : HdI := if x.toList = [] then z else ((pcV z.1 x).2, Go.bits .or .i64 z.2 (pcV z.1 x).1)
theorem stepV_eq {z : HdI} (h : okP z.2) (x : ByteArray) : stepW z x = stepV z x := by
  unfold stepW stepV
  rw [or0 h]
theorem stepV_ok {z : HdI} (h : okP z.2) (x : ByteArray) : okP (stepV z x).2 := by
  unfold stepV
  split
  · exact h
  · exact orQ h (pcV_in _ _)
theorem ct61_small (x : ByteArray) (hx : x.size ≤ 1000) : (ctV x 61).2.1.size ≤ 1000 := by
  unfold ctV
  split
  · show (⟨#[]⟩ : ByteArray).size ≤ 1000
    decide
  · show (x.extract _ _).size ≤ 1000
    rw [ByteArray.size_extract]
    omega
theorem imB_ev (z : HdI) (h : okP z.2) (x : ByteArray) (hx : x.size ≤ 1000) : Ev (fun k => imB k z x) (stepV z x) := by
  have := imB_cut z x hx (ct61_small x hx)
  rwa [imC_eq, stepV_eq h] at this
theorem imF_ev : ∀ (xs : List ByteArray) (z : HdI), okP z.2 → (∀ x ∈ xs, x.size ≤ 1000) → Ev (fun k => imF k xs z) (xs.foldl stepV z)
  | [], z, _, _ => Ev.now z
  | x :: xs, z, hz, hs => Ev.bind (imB_ev z hz x (hs x (by simp))) (imF_ev xs (stepV z x) (stepV_ok hz x) (fun y hy => hs y (by simp [hy])))
def flat (z : HdI) : Int × Int × Int × Int × Int × Bool × Int × Int × Int × Int × Bool × ByteArray × Int × Int := (z.1.1, z.1.2.1, z.1.2.2.1, z.1.2.2.2.1, z.1.2.2.2.2.1, z.1.2.2.2.2.2.1, z.1.2.2.2.2.2.2.1, z.1.2.2.2.2.2.2.2.1, z.1.2.2.2.2.2.2.2.2.1, z.1.2.2.2.2.2.2.2.2.2.1, z.1.2.2.2.2.2.2.2.2.2.2.1, z.1.2.2.2.2.2.2.2.2.2.2.2.1, z.1.2.2.2.2.2.2.2.2.2.2.2.2, z.2)
theorem spec_from (L : List ByteArray) (hL : L.length ≤ 1000) (hs : ∀ x ∈ L, x.size ≤ 1000) : ∀ (d i : Nat) (z : HdI), L.length - i = d → i ≤ L.length → Ev (fun k => spec_imRead.l0 k z.2 L (L.length : Int) (i : Int) z.1.1 z.1.2.1 z.1.2.2.1 z.1.2.2.2.1 z.1.2.2.2.2.1 z.1.2.2.2.2.2.1 z.1.2.2.2.2.2.2.1 z.1.2.2.2.2.2.2.2.1 z.1.2.2.2.2.2.2.2.2.1 z.1.2.2.2.2.2.2.2.2.2.1 z.1.2.2.2.2.2.2.2.2.2.2.1 z.1.2.2.2.2.2.2.2.2.2.2.2.1 z.1.2.2.2.2.2.2.2.2.2.2.2.2) (flat ((L.drop i).foldl stepV z))
  | 0, i, z, hd, hi => by
    obtain rfl : i = L.length := by omega
    rw [List.drop_length]
    exact Ev.step (fun k => by simp only [spec_imRead.l0]; rw [if_neg (by omega)]; rfl) (Ev.now _)
  | d + 1, i, z, hd, hi => by
    have hlt : i < L.length := by omega
    have hr : rdOf ByteArray.empty L (i : Int) = L[i] := by
      unfold rdOf
      simp [hlt]
    have hm := hs L[i] (List.getElem_mem hlt)
    rw [List.drop_eq_getElem_cons hlt, List.foldl_cons]
    by_cases he : L[i].toList = []
    · rw [show stepV z L[i] = z by unfold stepV; rw [if_pos he]]
      exact Ev.step (fun k => by simp only [spec_imRead.l0]; rw [if_pos (by omega), if_pos (by omega), if_pos (by omega), hr, if_pos he, w64_succ (by omega)]) (spec_from L hL hs d (i + 1) z (by omega) (by omega))
    · rw [show stepV z L[i] = ((pcV z.1 L[i]).2, Go.bits .or .i64 z.2 (pcV z.1 L[i]).1) by unfold stepV; rw [if_neg he]]
      refine Ev.step (fun k => by simp only [spec_imRead.l0]; rw [if_pos (by omega), if_pos (by omega), if_pos (by omega), hr, if_neg he, w64_succ (by omega)]) (Ev.bind (spec_imPart_ev z.1 L[i] hm) ?_)
      exact spec_from L hL hs d (i + 1) ((pcV z.1 L[i]).2, Go.bits .or .i64 z.2 (pcV z.1 L[i]).1) (by omega) (by omega)
theorem itF_spl : ∀ (n : Nat) (r : ByteArray), r.size ≤ n → itF n r = splV r 59
  | n, r, hn => by
    have hl := bs_len r
    rcases first_at 59 r.data.toList with h | ⟨a, b, h, ha⟩
    · have : splV r 59 = [r] := by
        unfold splV
        rw [spl_no h]
        simp [bsOf_self]
      rw [this]
      cases n with
      | zero => rfl
      | succ n => rw [itF, if_pos (by rw [idx_no h]; decide)]
    · have hx := cut_ext h
      have hs : splV r 59 = bsOf a :: splV (bsOf b) 59 := by
        unfold splV
        rw [h, spl_at ha, List.nil_append, List.map_cons, bsOf_list]
      rw [h] at hl
      simp only [List.length_append, List.length_cons] at hl
      cases n with
      | zero => omega
      | succ n =>
        have hb : (bsOf b).size ≤ n := by
          have := bs_len (bsOf b)
          rw [bsOf_list] at this
          omega
        rw [itF, if_neg (by rw [h, idx_at ha]; omega), hs]
        have e : (Lib.indexByte r.data.toList 59).toNat = a.length := by rw [h, idx_at ha]; simp
        rw [e, hx.1, hx.2, itF_spl n (bsOf b) hb]
theorem itP_spl (s : ByteArray) : itP s = splV s 59 := itF_spl s.size s (Nat.le_refl _)
theorem spl_size {c : UInt8} : ∀ (l cur : List UInt8), ∀ p ∈ spl c cur l, p.length ≤ cur.length + l.length
  | [], cur, p, hp => by
    simp [spl] at hp
    rw [hp]; simp
  | x :: l, cur, p, hp => by
    rw [spl] at hp
    split at hp
    · rcases List.mem_cons.1 hp with rfl | hp
      · simp
      · have := spl_size l [] p hp
        simp at this ⊢
        omega
    · have := spl_size l (cur ++ [x]) p hp
      simp at this ⊢
      omega
theorem splV_size (s : ByteArray) (hs : s.size ≤ 1000) : ∀ x ∈ splV s 59, x.size ≤ 1000 := fun x hx => by
  unfold splV at hx
  obtain ⟨p, hp, rfl⟩ := List.mem_map.1 hx
  have h1 := spl_size _ _ p hp
  have h2 := bs_len s
  have h3 := bs_len (bsOf p)
  rw [bsOf_list] at h3
  simp only [List.length_nil] at h1
  omega
theorem splV_len (s : ByteArray) (hs : s.size ≤ 900) : (splV s 59).length ≤ 1000 := by
  unfold splV
  rw [List.length_map, spl_len]
  have h2 := bs_len s
  have := List.count_le_length (a := (59 : UInt8)) (l := s.data.toList)
  omega
def hd0 : T13 := (0, 0, 0, 0, 0, false, 4, 0, 0, 0, false, ⟨#[]⟩, 1)
theorem sh0 : shPs ⟨#[48, 48, 48, 48, 48]⟩ = (0, 0, 0, 0, 0, false, true) := by decide +kernel
theorem or0_ : orPs ⟨#[102, 117]⟩ = (4, 0, true) := by decide +kernel
theorem pl0_ : plPs ⟨#[115, 112, 97, 99, 101]⟩ = (0, 0, false, true) := by unfold plPs plTab plHit; simp only [ByteArray.toList_eq]; decide +kernel
theorem mv0_ : psV ⟨#[45]⟩ = (⟨#[]⟩, 1, true) := by unfold psV; simp only [ByteArray.toList_eq]; decide +kernel
theorem spec_imRead_ev (s : ByteArray) (hs : s.size ≤ 900) : Ev (fun k => spec_imRead.f k s) (flat ((splV s 59).foldl stepV (hd0, 0))) := by
  unfold spec_imRead.f
  refine Ev.bind (spec_shParse_ev _) ?_
  refine Ev.bind (spec_orParse_ev _) ?_
  refine Ev.bind (spec_split_ev s 59 (by omega)) ?_
  rw [sh0, or0_]
  exact spec_from (splV s 59) (splV_len s hs) (splV_size s (by omega)) _ 0 (hd0, 0) rfl (Nat.zero_le _)
theorem sp0 : strings_Split.f (⟨#[48, 48, 48, 48, 48, 47, 102, 117, 47, 115, 112, 97, 99, 101, 47, 45]⟩ : ByteArray) (⟨#[47]⟩ : ByteArray) = some [⟨#[48, 48, 48, 48, 48]⟩, ⟨#[102, 117]⟩, ⟨#[115, 112, 97, 99, 101]⟩, ⟨#[45]⟩] := by kernel_rfl
theorem impl_readHand_ev : Ev (fun k => impl_readHand.f k (⟨#[48, 48, 48, 48, 48, 47, 102, 117, 47, 115, 112, 97, 99, 101, 47, 45]⟩ : ByteArray)) (0, 0, 0, 0, 0, false, 4, 0, 0, 0, false, ⟨#[]⟩, 1, 0, 0) := by
  unfold impl_readHand.f
  rw [sp0]
  refine Ev.congr (fun k => by rw [Option.bind_some, if_pos (by decide), if_pos (by decide)]) ?_
  refine Ev.bind (impl_ParseShape_ev _) ?_
  refine Ev.congr (fun k => by rw [if_pos (by decide), impl_orParse, Option.bind_some, if_pos (by decide)]) ?_
  refine Ev.bind (impl_ParsePlace_ev _) ?_
  refine Ev.congr (fun k => by rw [if_pos (by decide)]) ?_
  refine Ev.bind (impl_ParseMove_ev _ (by decide)) ?_
  have e1 : shPs (rdOf ByteArray.empty [⟨#[48, 48, 48, 48, 48]⟩, ⟨#[102, 117]⟩, ⟨#[115, 112, 97, 99, 101]⟩, ⟨#[45]⟩] 0) = (0, 0, 0, 0, 0, false, true) := sh0
  have e2 : orPs (rdOf ByteArray.empty [⟨#[48, 48, 48, 48, 48]⟩, ⟨#[102, 117]⟩, ⟨#[115, 112, 97, 99, 101]⟩, ⟨#[45]⟩] 1) = (4, 0, true) := or0_
  have e3 : plPs (rdOf ByteArray.empty [⟨#[48, 48, 48, 48, 48]⟩, ⟨#[102, 117]⟩, ⟨#[115, 112, 97, 99, 101]⟩, ⟨#[45]⟩] 2) = (0, 0, false, true) := pl0_
  have e4 : psV (rdOf ByteArray.empty [⟨#[48, 48, 48, 48, 48]⟩, ⟨#[102, 117]⟩, ⟨#[115, 112, 97, 99, 101]⟩, ⟨#[45]⟩] 3) = (⟨#[]⟩, 1, true) := mv0_
  rw [e1, e2, e3, e4]
  exact Ev.of (k := 6) (fun k => rh.mono_l _ _ _ _ _ _ _ _ _ _ _ _ _ _ _ _ _ _ _ _ _) (by kernel_rfl)
theorem impl_imported_ev (s : ByteArray) (hs : s.size ≤ 900) : Ev (fun k => impl_imported.f k s) (flat ((splV s 59).foldl stepV (hd0, 0))) := by
  refine Ev.congr (fun k => by unfold impl_imported.f; rw [if_pos (by omega)]) ?_
  unfold impl_imported.g
  refine Ev.bind impl_readHand_ev ?_
  rw [itP_spl]
  exact Ev.bind (imF_ev (splV s 59) (hd0, 0) ⟨by decide, by decide⟩ (splV_size s (by omega))) (Ev.now _)
end Go.Proofs.YtcicpmhcmlfhbaaGreatDoor.PA
