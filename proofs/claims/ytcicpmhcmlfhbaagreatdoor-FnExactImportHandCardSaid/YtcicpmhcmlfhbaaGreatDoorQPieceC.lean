/- What one piece of an import text does: both sides; the fold over the pieces. (Written by tools/gen_piece.py.) -/
import Derived.Test.YtcicpmhcmlfhbaaGreatDoorQPieceB
namespace Go.Proofs.YtcicpmhcmlfhbaaGreatDoor.PA
open Go.RowKit Go.Proofs.YtcicpmhcmlfhbaaGreatDoorW.PrintWords Go.Proofs.YtcicpmhcmlfhbaaGreatDoorW.PrintLast Go.Proofs.YtcicpmhcmlfhbaaGreatDoorW.PrintMore
set_option linter.unusedVariables false
set_option linter.unusedSimpArgs false
abbrev T13 : Type := Int × Int × Int × Int × Int × Bool × Int × Int × Int × Int × Bool × ByteArray × Int
def shPut (h : T13) (t : Int × Int × Int × Int × Int × Bool × Bool) : T13 := (t.1, t.2.1, t.2.2.1, t.2.2.2.1, t.2.2.2.2.1, t.2.2.2.2.2.1, h.2.2.2.2.2.2.1, h.2.2.2.2.2.2.2.1, h.2.2.2.2.2.2.2.2.1, h.2.2.2.2.2.2.2.2.2.1, h.2.2.2.2.2.2.2.2.2.2.1, h.2.2.2.2.2.2.2.2.2.2.2.1, h.2.2.2.2.2.2.2.2.2.2.2.2)
def orPut (h : T13) (t : Int × Int × Bool) : T13 := (h.1, h.2.1, h.2.2.1, h.2.2.2.1, h.2.2.2.2.1, h.2.2.2.2.2.1, t.1, t.2.1, h.2.2.2.2.2.2.2.2.1, h.2.2.2.2.2.2.2.2.2.1, h.2.2.2.2.2.2.2.2.2.2.1, h.2.2.2.2.2.2.2.2.2.2.2.1, h.2.2.2.2.2.2.2.2.2.2.2.2)
def plPut (h : T13) (t : Int × Int × Bool × Bool) : T13 := (h.1, h.2.1, h.2.2.1, h.2.2.2.1, h.2.2.2.2.1, h.2.2.2.2.2.1, h.2.2.2.2.2.2.1, h.2.2.2.2.2.2.2.1, t.1, t.2.1, t.2.2.1, h.2.2.2.2.2.2.2.2.2.2.2.1, h.2.2.2.2.2.2.2.2.2.2.2.2)
def mvPut (h : T13) (t : ByteArray × Int × Bool) : T13 := (h.1, h.2.1, h.2.2.1, h.2.2.2.1, h.2.2.2.2.1, h.2.2.2.2.2.1, h.2.2.2.2.2.2.1, h.2.2.2.2.2.2.2.1, h.2.2.2.2.2.2.2.2.1, h.2.2.2.2.2.2.2.2.2.1, h.2.2.2.2.2.2.2.2.2.2.1, t.1, t.2.1)
/-- What the letter of a piece and its value do. -/
def pcL (h : T13) (c : Int) (v : ByteArray) : Int × T13 :=
  if c = 83 then (if (shPs v).2.2.2.2.2.2 = true then (1, shPut h (shPs v)) else (16, h))
  else if c = 79 then (if (orPs v).2.2 = true then (2, orPut h (orPs v)) else (16, h))
  else if c = 80 then (if (plPs v).2.2.2 = true then (4, plPut h (plPs v)) else if (plPs (oldNm v)).2.2.2 = true then (4, plPut h (plPs (oldNm v))) else (16, h))
  else if c = 77 then (if (psV v).2.2 = true then (8, mvPut h (psV v)) else (16, h))
  else (16, h)
def pcV (h : T13) (x : ByteArray) : Int × T13 := if x.size < 2 ∨ bt x 1 ≠ 61 then (16, h) else pcL h (bt x 0) (x.extract 2 x.size)
theorem spec_pcL (h : T13) (x : ByteArray) (hx : x.size ≤ 1000) (h2 : 2 ≤ x.size) : Ev (fun k => spec_imPart.j0 k x false h.1 h.2.1 h.2.2.1 h.2.2.2.1 h.2.2.2.2.1 h.2.2.2.2.2.1 h.2.2.2.2.2.2.1 h.2.2.2.2.2.2.2.1 h.2.2.2.2.2.2.2.2.1 h.2.2.2.2.2.2.2.2.2.1 h.2.2.2.2.2.2.2.2.2.2.1 h.2.2.2.2.2.2.2.2.2.2.2.1 h.2.2.2.2.2.2.2.2.2.2.2.2) (pcL h (bt x 0) (x.extract 2 x.size)) := by
  have hv : (x.extract 2 x.size).size ≤ 1048576 := by rw [ByteArray.size_extract]; omega
  unfold pcL
  by_cases c1 : bt x 0 = 83
  · rw [if_pos c1]
    refine Ev.step (fun k => by simp only [spec_imPart.j0]; rw [if_neg (by decide), if_pos (by omega), if_pos (by omega), if_pos c1]) (Ev.bind (spec_shParse_ev (x.extract 2 x.size)) ?_)
    generalize shPs (x.extract 2 x.size) = t
    by_cases ok : t.2.2.2.2.2.2 = true
    · simp only [ok, if_true]; exact Ev.now _
    · simp only [ok, if_false]; exact Ev.now _
  · rw [if_neg c1]
    by_cases c2 : bt x 0 = 79
    · rw [if_pos c2]
      refine Ev.step (fun k => by simp only [spec_imPart.j0]; rw [if_neg (by decide), if_pos (by omega), if_pos (by omega), if_neg c1, if_pos c2]) (Ev.bind (spec_orParse_ev (x.extract 2 x.size)) ?_)
      generalize orPs (x.extract 2 x.size) = t
      by_cases ok : t.2.2 = true
      · simp only [ok, if_true]; exact Ev.now _
      · simp only [ok, if_false]; exact Ev.now _
    · rw [if_neg c2]
      by_cases c3 : bt x 0 = 80
      · rw [if_pos c3]
        refine Ev.step (fun k => by simp only [spec_imPart.j0]; rw [if_neg (by decide), if_pos (by omega), if_pos (by omega), if_neg c1, if_neg c2, if_pos c3]) (Ev.bind (spec_imPlaces_ev (x.extract 2 x.size)) ?_)
        by_cases ok : (plPs (oldNm (x.extract 2 x.size))).2.2.2 = true
        · have hn := old_new _ ok
          rw [hn]
          simp only [ok, if_true]
          exact Ev.now _
        · simp only [ok, if_false]
          refine Ev.bind (spec_plParse_ev (x.extract 2 x.size)) ?_
          generalize plPs (x.extract 2 x.size) = t
          by_cases ok2 : t.2.2.2 = true
          · simp only [ok2, if_true]; exact Ev.now _
          · simp only [ok2, if_false]; exact Ev.now _
      · rw [if_neg c3]
        by_cases c4 : bt x 0 = 77
        · rw [if_pos c4]
          refine Ev.step (fun k => by simp only [spec_imPart.j0]; rw [if_neg (by decide), if_pos (by omega), if_pos (by omega), if_neg c1, if_neg c2, if_neg c3, if_pos c4]) (Ev.bind (spec_mvParse_ev (x.extract 2 x.size) hv) ?_)
          generalize psV (x.extract 2 x.size) = t
          by_cases ok : t.2.2 = true
          · simp only [ok, if_true]; exact Ev.now _
          · simp only [ok, if_false]; exact Ev.now _
        · rw [if_neg c4]
          exact Ev.step (fun k => by simp only [spec_imPart.j0]; rw [if_neg (by decide), if_pos (by omega), if_pos (by omega), if_neg c1, if_neg c2, if_neg c3, if_neg c4]) (Ev.now _)
theorem spec_imPart_ev (h : T13) (x : ByteArray) (hx : x.size ≤ 1000) : Ev (fun k => spec_imPart.f k h.1 h.2.1 h.2.2.1 h.2.2.2.1 h.2.2.2.2.1 h.2.2.2.2.2.1 h.2.2.2.2.2.2.1 h.2.2.2.2.2.2.2.1 h.2.2.2.2.2.2.2.2.1 h.2.2.2.2.2.2.2.2.2.1 h.2.2.2.2.2.2.2.2.2.2.1 h.2.2.2.2.2.2.2.2.2.2.2.1 h.2.2.2.2.2.2.2.2.2.2.2.2 x) (pcV h x) := by
  unfold pcV
  by_cases h2 : x.size < 2
  · rw [if_pos (.inl h2)]
    refine Ev.congr (fun k => by unfold spec_imPart.f; rw [if_pos (by omega)]) (Ev.step (g := fun k => spec_imPart.j0 k x true h.1 h.2.1 h.2.2.1 h.2.2.2.1 h.2.2.2.2.1 h.2.2.2.2.2.1 h.2.2.2.2.2.2.1 h.2.2.2.2.2.2.2.1 h.2.2.2.2.2.2.2.2.1 h.2.2.2.2.2.2.2.2.2.1 h.2.2.2.2.2.2.2.2.2.2.1 h.2.2.2.2.2.2.2.2.2.2.2.1 h.2.2.2.2.2.2.2.2.2.2.2.2) (fun k => by simp only [spec_imPart.j0]; rw [if_pos trivial]) (Ev.now _))
  · by_cases hb : bt x 1 = 61
    · rw [if_neg (by omega)]
      refine Ev.congr (fun k => by unfold spec_imPart.f; rw [if_neg (by omega), if_pos (by omega), hb]; rfl) (spec_pcL h x hx (by omega))
    · rw [if_pos (.inr hb)]
      refine Ev.congr (fun k => by unfold spec_imPart.f; rw [if_neg (by omega), if_pos (by omega)]) (Ev.step (g := fun k => spec_imPart.j0 k x ((bt x 1) != 61) h.1 h.2.1 h.2.2.1 h.2.2.2.1 h.2.2.2.2.1 h.2.2.2.2.2.1 h.2.2.2.2.2.2.1 h.2.2.2.2.2.2.2.1 h.2.2.2.2.2.2.2.2.1 h.2.2.2.2.2.2.2.2.2.1 h.2.2.2.2.2.2.2.2.2.2.1 h.2.2.2.2.2.2.2.2.2.2.2.1 h.2.2.2.2.2.2.2.2.2.2.2.2) (fun k => by simp only [spec_imPart.j0]; rw [if_pos (by simpa using hb)]) (Ev.now _))
theorem cut_ext {u : ByteArray} {c : UInt8} {a b : List UInt8} (h : u.data.toList = a ++ c :: b) : u.extract 0 a.length = bsOf a ∧ u.extract (a.length + 1) u.size = bsOf b := by
  constructor
  · refine bs_ext ?_
    rw [ext_list, h, bsOf_list, List.take_left]
  · refine bs_ext ?_
    have hl := bs_len u
    simp only [ByteArray.data_extract, Array.toList_extract, List.extract_eq_take_drop, bsOf_list]
    rw [h] at hl ⊢
    rw [show a ++ c :: b = (a ++ [c]) ++ b by simp, List.drop_left' (by simp), List.take_of_length_le]
    simp at hl
    omega
theorem ct61_at {u : ByteArray} {a b : List UInt8} (h : u.data.toList = a ++ 61 :: b) (ha : (61 : UInt8) ∉ a) : ctV u 61 = (bsOf a, bsOf b, true) := by
  unfold ctV
  rw [h, idx_at ha, if_neg (by omega)]
  simp only [Int.toNat_natCast, (cut_ext h).1, (cut_ext h).2]
theorem ct61_no {u : ByteArray} (h : (61 : UInt8) ∉ u.data.toList) : ctV u 61 = (u, ⟨#[]⟩, false) := by
  unfold ctV
  rw [idx_no h, if_pos (by decide)]
theorem ct61 (u : ByteArray) (hu : u.size ≤ 1048576) : strings_Cut.f u (⟨#[61]⟩ : ByteArray) = some (ctV u 61) := by
  have hi : stringslite_Index.f u (⟨#[61]⟩ : ByteArray) = some (Lib.indexByte u.data.toList 61) := by
    unfold stringslite_Index.f
    rw [if_pos (by rfl)]
    rfl
  have hl := bs_len u
  unfold strings_Cut.f stringslite_Cut.f ctV
  rw [hi, Option.bind_some]
  rcases first_at 61 u.data.toList with h | ⟨a, b, h, ha⟩
  · rw [idx_no h, if_neg (by decide), if_pos (by decide)]
    rfl
  · have hab : a.length + b.length + 1 = u.size := by rw [← hl, h]; simp; omega
    have h1 : ((⟨#[61]⟩ : ByteArray).size : Int) = 1 := rfl
    rw [h, idx_at ha, h1, sw64 (by omega) (by omega), if_pos (by omega), if_pos (by omega), if_pos (by omega), if_pos (by omega), if_pos (by omega), if_neg (by omega)]
    rfl
def imNV (z : HdI) (x : ByteArray) : HdI := if x.toList = [] then (z.1, Go.bits .or .i64 z.2 0) else (z.1, Go.bits .or .i64 z.2 16)
theorem imN_eq (z : HdI) (x : ByteArray) : imN z x = some (imNV z x) := by unfold imN imNV; split <;> rfl
/-- What the program does with the letters before the first equals sign and the value behind it. -/
def imC_ (z : HdI) (x : ByteArray) (c v : ByteArray) : HdI :=
  if c.toList = [83] then (if (shPs v).2.2.2.2.2.2 = true then (shPut z.1 (shPs v), Go.bits .or .i64 z.2 1) else imNV z x)
  else if c.toList = [79] then (if (orPs v).2.2 = true then (orPut z.1 (orPs v), Go.bits .or .i64 z.2 2) else imNV z x)
  else if c.toList = [80] then (if (plPs v).2.2.2 = true then (plPut z.1 (plPs v), Go.bits .or .i64 z.2 4) else if (plPs (oldNm v)).2.2.2 = true then (plPut z.1 (plPs (oldNm v)), Go.bits .or .i64 z.2 4) else imNV z x)
  else if c.toList = [77] then (if (psV v).2.2 = true then (mvPut z.1 (psV v), Go.bits .or .i64 z.2 8) else imNV z x)
  else imNV z x
theorem imB_cut (z : HdI) (x : ByteArray) (hx : x.size ≤ 1000) (hv : (ctV x 61).2.1.size ≤ 1000) : Ev (fun k => imB k z x) (imC_ z x (ctV x 61).1 (ctV x 61).2.1) := by
  unfold imB imC_
  simp only [imN_eq, ct61 x (by omega), Option.bind_some]
  generalize hc : ctV x 61 = c at hv ⊢
  by_cases c1 : c.1.toList = [83]
  · simp only [c1, if_true]
    refine Ev.bind (impl_ParseShape_ev c.2.1) ?_
    generalize shPs c.2.1 = t
    by_cases ok : t.2.2.2.2.2.2 = true
    · simp only [ok, if_true]; exact Ev.now _
    · simp only [ok, if_false]; exact Ev.now _
  · simp only [c1, if_false]
    by_cases c2 : c.1.toList = [79]
    · simp only [c2, if_true]
      refine Ev.congr (fun k => by rw [impl_orParse, Option.bind_some]) ?_
      generalize orPs c.2.1 = t
      by_cases ok : t.2.2 = true
      · simp only [ok, if_true]; exact Ev.now _
      · simp only [ok, if_false]; exact Ev.now _
    · simp only [c2, if_false]
      by_cases c3 : c.1.toList = [80]
      · simp only [c3, if_true]
        refine Ev.bind (impl_ParsePlace_ev c.2.1) ?_
        generalize plPs c.2.1 = t
        by_cases ok : t.2.2.2 = true
        · simp only [ok, if_true]; exact Ev.now _
        · simp only [ok, if_false]
          refine Ev.bind (impl_OldPlace_ev c.2.1 (by omega)) ?_
          generalize plPs (oldNm c.2.1) = u
          by_cases ok2 : u.2.2.2 = true
          · simp only [ok2, if_true]; exact Ev.now _
          · simp only [ok2, if_false]; exact Ev.now _
      · simp only [c3, if_false]
        by_cases c4 : c.1.toList = [77]
        · simp only [c4, if_true]
          refine Ev.bind (impl_ParseMove_ev c.2.1 (by omega)) ?_
          generalize psV c.2.1 = t
          by_cases ok : t.2.2 = true
          · simp only [ok, if_true]; exact Ev.now _
          · simp only [ok, if_false]; exact Ev.now _
        · simp only [c4, if_false]; exact Ev.now _
end Go.Proofs.YtcicpmhcmlfhbaaGreatDoor.PA
