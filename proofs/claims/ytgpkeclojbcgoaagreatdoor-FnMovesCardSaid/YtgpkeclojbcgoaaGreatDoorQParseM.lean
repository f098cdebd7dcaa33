/- The movement with a text: the program's and the reference's are the same. -/
import Derived.Test.YtgpkeclojbcgoaaGreatDoorPAx2
import Derived.Test.YtgpkeclojbcgoaaGreatDoorQMvTxt
import Derived.Test.YtgpkeclojbcgoaaGreatDoorQMoveN
import Derived.Test.YtgpkeclojbcgoaaGreatDoorQSplit
namespace Go.Proofs.YtgpkeclojbcgoaaGreatDoor.PA
open Go.RowKit Go.Proofs.YtgpkeclojbcgoaaGreatDoorW.PrintWords Go.Proofs.YtgpkeclojbcgoaaGreatDoorW.PrintLast Go.Proofs.YtgpkeclojbcgoaaGreatDoorW.PrintMore
set_option linter.unusedVariables false
set_option linter.unusedSimpArgs false
/-- The movement with a text. -/
def psV (u : ByteArray) : ByteArray × Int × Bool :=
  if (42 : UInt8) ∈ u.data.toList then
    (if (ctV u 42).2.1.toList = [50] ∧ mvOK (ctV u 42).1 2 = true then ((ctV u 42).1, 2, true)
    else if (ctV u 42).2.1.toList = [51] ∧ mvOK (ctV u 42).1 3 = true then ((ctV u 42).1, 3, true) else (⟨#[]⟩, 0, false))
  else if u.toList = [45] then (⟨#[]⟩, 1, true) else if mvOK u 1 = true ∧ ¬ u.toList = [] then (u, 1, true) else (⟨#[]⟩, 0, false)
theorem ct_at {u : ByteArray} {a b : List UInt8} (h : u.data.toList = a ++ 42 :: b) (ha : (42 : UInt8) ∉ a) : ctV u 42 = (bsOf a, bsOf b, true) := by
  unfold ctV
  rw [h, idx_at ha, if_neg (by omega)]
  have h1 : u.extract 0 a.length = bsOf a := by
    refine bs_ext ?_
    rw [ext_list, h, bsOf_list, List.take_left]
  have h2 : u.extract (a.length + 1) u.size = bsOf b := by
    refine bs_ext ?_
    have hl := bs_len u
    simp only [ByteArray.data_extract, Array.toList_extract, List.extract_eq_take_drop, bsOf_list]
    rw [h] at hl ⊢
    rw [show a ++ 42 :: b = (a ++ [42]) ++ b by simp, List.drop_left' (by simp), List.take_of_length_le]
    simp at hl
    omega
  simp only [Int.toNat_natCast, h1, h2]
theorem ct_no {u : ByteArray} (h : (42 : UInt8) ∉ u.data.toList) : ctV u 42 = (u, ⟨#[]⟩, false) := by
  unfold ctV
  rw [idx_no h, if_pos (by decide)]
/-- What is made of steps and a number, behind the cut. -/
def endV (u s : ByteArray) (n : Int) : ByteArray × Int × Bool := if mvOK s n = true then (if (mvTxt s n).toList = u.toList then (s, n, true) else (⟨#[]⟩, 0, false)) else (⟨#[]⟩, 0, false)
theorem mvOK_txt {s : ByteArray} {n : Int} (h : mvOK s n = true) : s.size ≤ 1000 ∧ (s.toList = [] ∨ (1 ≤ n ∧ n < 10)) := by
  obtain ⟨h6, h1, h3, _⟩ := mvOK_parts h
  exact ⟨by omega, .inr ⟨h1, by omega⟩⟩
theorem dir42 : decide (0 ≤ dirIdx ((42 : UInt8).toNat : Int)) = false := by decide +kernel
theorem dir45 : decide (0 ≤ dirIdx ((45 : UInt8).toNat : Int)) = false := by decide +kernel
theorem mvOK_42 {s : ByteArray} {n : Int} (h : mvOK s n = true) : (42 : UInt8) ∉ s.data.toList := fun hm => by
  have := List.all_eq_true.mp (mvOK_dirs h) _ hm
  rw [dir42] at this
  cases this
theorem mvOK_45 {s : ByteArray} {n : Int} (h : mvOK s n = true) : (45 : UInt8) ∉ s.data.toList := fun hm => by
  have := List.all_eq_true.mp (mvOK_dirs h) _ hm
  rw [dir45] at this
  cases this
theorem mvOK_ne {s : ByteArray} {n : Int} (h : mvOK s n = true) (hn : 1 < n) : ¬ s.toList = [] := fun e => by
  have := (mvOK_parts h).2.2.2 e
  omega
theorem it2 : (itT 2).data.toList = [50] := by decide +kernel
theorem it3 : (itT 3).data.toList = [51] := by decide +kernel
/-- Without a star. -/
theorem end_no {u : ByteArray} (h : (42 : UInt8) ∉ u.data.toList) : endV u (if u.toList = [45] then ⟨#[]⟩ else u) 1 = psV u := by
  unfold psV
  rw [if_neg h]
  by_cases e : u.toList = [45]
  · rw [if_pos e, if_pos e]
    unfold endV
    rw [if_pos (by decide +kernel), if_pos (by rw [e]; decide +kernel)]
  · rw [if_neg e, if_neg e]
    unfold endV
    by_cases hv : mvOK u 1 = true
    · rw [if_pos hv]
      by_cases h0 : u.toList = []
      · rw [if_neg (fun e2 => by unfold mvTxt at e2; rw [if_pos h0, h0] at e2; exact absurd e2 (by decide +kernel)), if_neg (fun e2 => e2.2 h0)]
      · rw [if_pos (by unfold mvTxt; rw [if_neg h0, if_neg (by decide)]), if_pos ⟨hv, h0⟩]
    · rw [if_neg hv, if_neg (fun e2 => hv e2.1)]
/-- With a star: what stands behind it is 2 or 3, or nothing is made. -/
theorem end_star {u : ByteArray} {a b : List UInt8} (h : u.data.toList = a ++ 42 :: b) (ha : (42 : UInt8) ∉ a) (n : Int) (h2 : b = [50] → n = 2) (h3 : b = [51] → n = 3) : endV u (bsOf a) n = psV u := by
  unfold psV
  have hm : (42 : UInt8) ∈ u.data.toList := by rw [h]; simp
  rw [if_pos hm, ct_at h ha]
  simp only []
  have hb : (bsOf b).toList = b := by rw [← bs_list, bsOf_list]
  rw [hb]
  have key : mvOK (bsOf a) n = true → (mvTxt (bsOf a) n).toList = u.toList → (b = [50] ∧ n = 2) ∨ (b = [51] ∧ n = 3) := by
    intro hv ht
    obtain ⟨h6, h1, h4, h0⟩ := mvOK_parts hv
    rw [← bs_list, ← bs_list, h] at ht
    unfold mvTxt at ht
    by_cases e : (bsOf a).toList = []
    · rw [if_pos e] at ht
      have : (42 : UInt8) ∈ (⟨#[45]⟩ : ByteArray).data.toList := by rw [ht]; simp
      exact absurd this (by decide)
    · rw [if_neg e] at ht
      by_cases g : n > 1
      · rw [if_pos g] at ht
        simp only [ByteArray.data_append, Array.toList_append, bsOf_list, List.append_assoc] at ht
        have ht2 := List.append_cancel_left ht
        simp only [List.singleton_append, List.cons.injEq, true_and] at ht2
        have hn : n = 2 ∨ n = 3 := by omega
        rcases hn with rfl | rfl
        · exact .inl ⟨by rw [← ht2]; exact it2, rfl⟩
        · exact .inr ⟨by rw [← ht2]; exact it3, rfl⟩
      · rw [if_neg g, bsOf_list] at ht
        have : (42 : UInt8) ∈ a := by rw [ht]; simp
        exact absurd this ha
  have make : ∀ m : Int, (m = 2 ∧ b = [50]) ∨ (m = 3 ∧ b = [51]) → mvOK (bsOf a) m = true → (mvTxt (bsOf a) m).toList = u.toList := by
    intro m hmb hv
    rw [← bs_list, ← bs_list, h]
    unfold mvTxt
    rcases hmb with ⟨rfl, rfl⟩ | ⟨rfl, rfl⟩
    · rw [if_neg (mvOK_ne hv (by decide)), if_pos (by decide)]
      simp only [ByteArray.data_append, Array.toList_append, bsOf_list, it2, List.append_assoc]
      rfl
    · rw [if_neg (mvOK_ne hv (by decide)), if_pos (by decide)]
      simp only [ByteArray.data_append, Array.toList_append, bsOf_list, it3, List.append_assoc]
      rfl
  unfold endV
  by_cases b2 : b = [50]
  · obtain rfl := h2 b2
    by_cases hv : mvOK (bsOf a) 2 = true
    · rw [if_pos hv, if_pos (make 2 (.inl ⟨rfl, b2⟩) hv), if_pos ⟨b2, hv⟩]
    · rw [if_neg hv, if_neg (fun e => hv e.2), if_neg (fun e => by rw [b2] at e; exact absurd e.1 (by decide))]
  · rw [if_neg (show ¬ (b = [50] ∧ mvOK (bsOf a) 2 = true) from fun e => b2 e.1)]
    by_cases b3 : b = [51]
    · obtain rfl := h3 b3
      by_cases hv : mvOK (bsOf a) 3 = true
      · rw [if_pos hv, if_pos (make 3 (.inr ⟨rfl, b3⟩) hv), if_pos ⟨b3, hv⟩]
      · rw [if_neg hv, if_neg (fun e => hv e.2)]
    · rw [if_neg (show ¬ (b = [51] ∧ mvOK (bsOf a) 3 = true) from fun e => b3 e.1)]
      by_cases hv : mvOK (bsOf a) n = true
      · rw [if_pos hv, if_neg (fun ht => by
          rcases key hv ht with ⟨e, _⟩ | ⟨e, _⟩
          · exact b2 e
          · exact b3 e)]
      · rw [if_neg hv]
theorem Ev.uniq {α : Type} {g : Nat → Option α} {a b : α} (ha : Ev g a) (hb : Ev g b) : a = b := by
  obtain ⟨K, hK⟩ := ha
  obtain ⟨L, hL⟩ := hb
  have h1 := hK (K + L) (by omega)
  have h2 := hL (K + L) (by omega)
  rw [h1] at h2
  exact Option.some.inj h2
theorem spec_read_from (s : ByteArray) (hs : s.size ≤ 1048576) : ∀ (d i : Nat) (n : Int), s.size - i = d → i ≤ s.size → ∃ v, Ev (fun k => spec_l1Read.l0 k s n (i : Int)) v := by
  intro d
  induction d with
  | zero =>
    intro i n hd hi
    exact ⟨n, Ev.step (f := fun _ => some n) (fun k => by simp only [spec_l1Read.l0]; rw [if_neg (by omega)]) (Ev.now _)⟩
  | succ d ih =>
    intro i n hd hi
    have hw : wrap64 ((i : Int) + 1) = ((i + 1 : Nat) : Int) := by rw [sw64 (by omega) (by omega)]; omega
    by_cases c1 : bt s (i : Int) < 48
    · exact ⟨-1, Ev.step (f := fun _ => some (-1)) (fun k => by simp only [spec_l1Read.l0]; rw [if_pos (by omega), if_pos (by omega), if_pos (by omega), if_pos c1]) (Ev.now _)⟩
    · by_cases c2 : bt s (i : Int) > 57
      · exact ⟨-1, Ev.step (f := fun _ => some (-1)) (fun k => by simp only [spec_l1Read.l0]; rw [if_pos (by omega), if_pos (by omega), if_pos (by omega), if_neg c1, if_pos (by omega), if_pos (by omega), if_pos c2]) (Ev.now _)⟩
      · obtain ⟨v, hv⟩ := ih (i + 1) (wrap64 ((wrap64 (10 * n)) + (wrap64 (((bt s (i : Int)) - 48) % 256)))) (by omega) (by omega)
        exact ⟨v, Ev.step (fun k => by simp only [spec_l1Read.l0]; rw [if_pos (by omega), if_pos (by omega), if_pos (by omega), if_neg c1, if_pos (by omega), if_pos (by omega), if_neg c2, if_pos (by omega), if_pos (by omega), hw]) hv⟩
theorem spec_read_j0 (s : ByteArray) (hs : s.size ≤ 1048576) (b : Bool) : ∃ v, Ev (fun k => spec_l1Read.j0 k s b) v := by
  cases b
  · obtain ⟨v, hv⟩ := spec_read_from s hs _ 0 0 rfl (Nat.zero_le _)
    exact ⟨v, Ev.step (fun k => by simp only [spec_l1Read.j0]; rw [if_neg (by decide)]; rfl) hv⟩
  · exact ⟨-1, Ev.step (f := fun _ => some (-1)) (fun k => by simp only [spec_l1Read.j0]; rw [if_pos trivial]) (Ev.now _)⟩
theorem spec_read_ev (s : ByteArray) (hs : s.size ≤ 1048576) : ∃ v, Ev (fun k => spec_l1Read.f k s) v := by
  unfold spec_l1Read.f
  have hin : spec_l1In.f (s.size : Int) 1 6 = some (decide (1 ≤ (s.size : Int) ∧ (s.size : Int) ≤ 6)) := by
    unfold spec_l1In.f
    by_cases h : (s.size : Int) ≥ 1
    · rw [if_pos h]; simp [h]
    · rw [if_neg h]; simp; omega
  by_cases h : 1 ≤ (s.size : Int) ∧ (s.size : Int) ≤ 6
  · obtain ⟨v1, h1⟩ := spec_read_j0 s hs (decide ((s.size : Int) > 1))
    obtain ⟨v2, h2⟩ := spec_read_j0 s hs false
    by_cases c : bt s 0 = 48
    · exact ⟨v1, Ev.congr (fun k => by rw [hin, decide_eq_true h, Option.bind_some, if_pos rfl, if_pos (by omega), if_pos c]) h1⟩
    · exact ⟨v2, Ev.congr (fun k => by rw [hin, decide_eq_true h, Option.bind_some, if_pos rfl, if_pos (by omega), if_neg c]) h2⟩
  · obtain ⟨v, hv⟩ := spec_read_j0 s hs true
    exact ⟨v, Ev.congr (fun k => by rw [hin, decide_eq_false h, Option.bind_some, if_neg (by decide)]) hv⟩
theorem read2 : spec_l1Read.f 6 (bsOf [50]) = some 2 := by decide +kernel
theorem read3 : spec_l1Read.f 6 (bsOf [51]) = some 3 := by decide +kernel
theorem spec_mv_j1 {u s : ByteArray} {n : Int} (w : List ByteArray) (hw : w.length ≤ 2) (hs : s.size ≤ 1048576) : Ev (fun k => spec_mvParse.j1 k u w s n) (endV u s n) := by
  unfold endV
  refine Ev.step (fun k => by simp only [spec_mvParse.j1]; rw [if_neg (by omega)]) (f := fun k => (spec_mvGood.f k s n).bind fun t => if t = true then ((spec_mvText.f k s n).bind fun t => if t.toList = u.toList then some (s, n, true) else some ((⟨#[]⟩ : ByteArray), 0, false)) else some ((⟨#[]⟩ : ByteArray), 0, false)) ?_
  refine Ev.bind (spec_mvGood_ev s n (by omega)) ?_
  by_cases h : mvOK s n = true
  · rw [if_pos h]
    simp only [if_pos h]
    refine (Ev.bind (spec_mv_txt s n (mvOK_txt h).1 (mvOK_txt h).2) ?_)
    by_cases e : (mvTxt s n).toList = u.toList
    · simp only [if_pos e]; exact Ev.now _
    · simp only [if_neg e]; exact Ev.now _
  · rw [if_neg h]; exact Ev.congr (f := fun _ => some (⟨#[]⟩, 0, false)) (fun k => if_neg h) (Ev.now _)
theorem spec_mv_many {u s : ByteArray} {n : Int} (w : List ByteArray) (hw : 2 < w.length) : Ev (fun k => spec_mvParse.j0 k u w s n) (⟨#[]⟩, 0, false) := by
  refine Ev.step (f := fun k => spec_mvParse.j1 k u w s n) (fun k => by simp only [spec_mvParse.j0]; rw [if_neg (by omega)]) ?_
  exact Ev.step (f := fun _ => some (⟨#[]⟩, 0, false)) (fun k => by simp only [spec_mvParse.j1]; rw [if_pos (by omega)]) (Ev.now _)
theorem spec_mvParse_ev (u : ByteArray) (hu : u.size ≤ 1048576) : Ev (fun k => spec_mvParse.f k u) (psV u) := by
  unfold spec_mvParse.f
  have hsp := spec_split_ev u 42 hu
  have hl := bs_len u
  rcases first_at 42 u.data.toList with h | ⟨a, b, h, ha⟩
  · have e : splV u 42 = [u] := by unfold splV; rw [spl_no h]; simp [bsOf_self]
    rw [e] at hsp
    refine Ev.bind hsp ?_
    rw [← end_no h]
    refine Ev.congr (fun k => if_pos (by simp)) ?_
    by_cases c : u.toList = [45]
    · rw [if_pos c]
      refine Ev.congr (fun k => if_pos c) ?_
      refine Ev.step (f := fun k => spec_mvParse.j1 k u [u] ⟨#[]⟩ 1) (fun k => by simp only [spec_mvParse.j0]; rw [if_neg (by simp)]) (spec_mv_j1 [u] (by simp) (by decide))
    · rw [if_neg c]
      refine Ev.congr (fun k => if_neg c) ?_
      exact Ev.step (f := fun k => spec_mvParse.j1 k u [u] u 1) (fun k => by simp only [spec_mvParse.j0]; rw [if_neg (by simp)]; rfl) (spec_mv_j1 [u] (by simp) hu)
  · have e : splV u 42 = bsOf a :: (spl 42 [] b).map bsOf := by unfold splV; rw [h, spl_at ha]; simp
    have hlen := spl_len (c := 42) (l := b) (cur := [])
    have hab : a.length + b.length + 1 = u.size := by rw [← hl, h]; simp; omega
    have sa : (bsOf a).size ≤ 1048576 := by rw [← bs_len, bsOf_list]; omega
    have sb : (bsOf b).size ≤ 1048576 := by rw [← bs_len, bsOf_list]; omega
    have hc : ¬ u.toList = [45] := fun e2 => by
      rw [← bs_list, h] at e2
      have : (42 : UInt8) ∈ [(45 : UInt8)] := by rw [← e2]; simp
      exact absurd this (by decide)
    refine Ev.bind hsp ?_
    rw [e]
    refine Ev.congr (fun k => by rw [if_pos (by simp), if_neg hc]; rfl) (f := fun k => spec_mvParse.j0 k u (bsOf a :: (spl 42 [] b).map bsOf) (bsOf a) 1) ?_
    by_cases hb : (42 : UInt8) ∈ b
    · have h2 : psV u = (⟨#[]⟩, 0, false) := by
        unfold psV
        rw [if_pos (by rw [h]; simp), ct_at h ha]
        simp only [show (bsOf b).toList = b by rw [← bs_list, bsOf_list]]
        rw [if_neg (fun e2 => by rw [e2.1] at hb; exact absurd hb (by decide)), if_neg (fun e2 => by rw [e2.1] at hb; exact absurd hb (by decide))]
      rw [h2]
      have hcnt : 0 < b.count 42 := List.count_pos_iff.mpr hb
      exact spec_mv_many _ (by simp; omega)
    · rw [spl_no hb]
      obtain ⟨v, hv⟩ := spec_read_ev (bsOf b) sb
      rw [← end_star h ha v (fun e2 => by subst e2; exact Ev.uniq hv (Ev.of (fun k => spec_l1Read.mono _ _) read2)) (fun e2 => by subst e2; exact Ev.uniq hv (Ev.of (fun k => spec_l1Read.mono _ _) read3))]
      refine Ev.step (f := fun k => (spec_l1Read.f k (bsOf b)).bind fun t => spec_mvParse.j1 k u [bsOf a, bsOf b] (bsOf a) t) (fun k => by simp only [spec_mvParse.j0]; rw [if_pos (by rfl), if_pos (by simp)]; rfl) ?_
      exact Ev.bind hv (spec_mv_j1 _ (by simp) sa)
theorem spec_ParseMove_ev (u : ByteArray) (hu : u.size ≤ 1048576) : Ev (fun k => spec_ParseMove.f k u) (psV u) := by
  unfold spec_ParseMove.f
  exact Ev.bind (spec_mvParse_ev u hu) (Ev.now _)
theorem ct_f (u : ByteArray) (hu : u.size ≤ 1048576) : strings_Cut.f u (⟨#[42]⟩ : ByteArray) = some (ctV u 42) := by
  have hi : stringslite_Index.f u (⟨#[42]⟩ : ByteArray) = some (Lib.indexByte u.data.toList 42) := by
    unfold stringslite_Index.f
    rw [if_pos (by rfl)]
    rfl
  have hl := bs_len u
  unfold strings_Cut.f stringslite_Cut.f ctV
  rw [hi, Option.bind_some]
  rcases first_at 42 u.data.toList with h | ⟨a, b, h, ha⟩
  · rw [idx_no h, if_neg (by decide), if_pos (by decide)]
    rfl
  · have hab : a.length + b.length + 1 = u.size := by rw [← hl, h]; simp; omega
    have h1 : ((⟨#[42]⟩ : ByteArray).size : Int) = 1 := rfl
    rw [h, idx_at ha, h1, sw64 (by omega) (by omega), if_pos (by omega), if_pos (by omega), if_pos (by omega), if_pos (by omega), if_pos (by omega), if_neg (by omega)]
    rfl
theorem itoa1 : Lib.itoa 1 = [49] := by
  unfold Lib.itoa
  rw [if_neg (by decide)]
  exact (by rw [Lib.decDigits, dif_pos (by decide)]; rfl)
theorem itoa2 : Lib.itoa 2 = [50] := by
  unfold Lib.itoa
  rw [if_neg (by decide)]
  exact (by rw [Lib.decDigits, dif_pos (by decide)]; rfl)
theorem itoa3 : Lib.itoa 3 = [51] := by
  unfold Lib.itoa
  rw [if_neg (by decide)]
  exact (by rw [Lib.decDigits, dif_pos (by decide)]; rfl)
theorem atoi2 : Lib.atoiAll [50] = .ok 2 := by rfl
theorem atoi3 : Lib.atoiAll [51] = .ok 3 := by rfl
theorem dec2 : (decV (bsOf [50])).1 = 2 := by
  unfold decV
  rw [bsOf_list, atoi2]
  simp only []
  rw [itoa2, if_pos rfl]
theorem dec3 : (decV (bsOf [51])).1 = 3 := by
  unfold decV
  rw [bsOf_list, atoi3]
  simp only []
  rw [itoa3, if_pos rfl]
theorem impl_mv_j1 {u s : ByteArray} {n : Int} (hs : s.size ≤ 1048576) : Ev (fun k => impl_ParseMove.j1 k u s n) (endV u s n) := by
  unfold endV
  refine Ev.step (fun k => by simp only [impl_ParseMove.j1]) (f := fun k => (impl_IsMove.f k s n).bind fun t => if t = true then ((impl_Move_text.f s n).bind fun t => if t.toList = u.toList then some (s, n, true) else some ((⟨#[]⟩ : ByteArray), 0, false)) else some ((⟨#[]⟩ : ByteArray), 0, false)) ?_
  refine Ev.bind (impl_IsMove_ev s n (by omega)) ?_
  by_cases h : mvOK s n = true
  · simp only [if_pos h]
    refine Ev.congr (fun k => by rw [impl_mv_txt s n (mvOK_txt h).1 (mvOK_txt h).2, Option.bind_some]) (f := fun _ => if (mvTxt s n).toList = u.toList then some (s, n, true) else some (⟨#[]⟩, 0, false)) ?_
    by_cases e : (mvTxt s n).toList = u.toList
    · simp only [if_pos e]; exact Ev.now _
    · simp only [if_neg e]; exact Ev.now _
  · simp only [if_neg h]; exact Ev.now _
theorem impl_ParseMove_ev (u : ByteArray) (hu : u.size ≤ 1048576) : Ev (fun k => impl_ParseMove.f k u) (psV u) := by
  unfold impl_ParseMove.f
  have hl := bs_len u
  simp only [ct_f u hu, Option.bind_some]
  rcases first_at 42 u.data.toList with h | ⟨a, b, h, ha⟩
  · rw [ct_no h, ← end_no h]
    refine Ev.congr (fun k => by rw [if_neg (by simp)]) (f := fun k => impl_ParseMove.j0 k u u 1) ?_
    by_cases c : u.toList = [45]
    · rw [if_pos c]
      exact Ev.step (f := fun k => impl_ParseMove.j1 k u ⟨#[]⟩ 1) (fun k => by simp only [impl_ParseMove.j0]; rw [if_pos c]) (impl_mv_j1 (by decide))
    · rw [if_neg c]
      exact Ev.step (f := fun k => impl_ParseMove.j1 k u u 1) (fun k => by simp only [impl_ParseMove.j0]; rw [if_neg c]) (impl_mv_j1 hu)
  · have hab : a.length + b.length + 1 = u.size := by rw [← hl, h]; simp; omega
    have sa : (bsOf a).size ≤ 1048576 := by rw [← bs_len, bsOf_list]; omega
    have sb : (bsOf b).size ≤ 1048576 := by rw [← bs_len, bsOf_list]; omega
    have hc : ¬ u.toList = [45] := fun e2 => by
      rw [← bs_list, h] at e2
      have : (42 : UInt8) ∈ [(45 : UInt8)] := by rw [← e2]; simp
      exact absurd this (by decide)
    rw [ct_at h ha, ← end_star h ha (decV (bsOf b)).1 (fun e2 => by subst e2; exact dec2) (fun e2 => by subst e2; exact dec3)]
    have hd : impl_decimal.f (bsOf b) = some (decV (bsOf b)) := by
      unfold impl_decimal.f
      rw [if_pos (by omega)]
    refine Ev.congr (fun k => by rw [if_pos rfl, hd, Option.bind_some]) (f := fun k => impl_ParseMove.j0 k u (bsOf a) (decV (bsOf b)).1) ?_
    exact Ev.step (f := fun k => impl_ParseMove.j1 k u (bsOf a) (decV (bsOf b)).1) (fun k => by simp only [impl_ParseMove.j0]; rw [if_neg hc]) (impl_mv_j1 sa)
/-- The text of a movement leads back to it. -/
theorem ps_back {s : ByteArray} {n : Int} (h : mvOK s n = true) : psV (mvTxt s n) = (s, n, true) := by
  obtain ⟨h6, h1, h3, h0⟩ := mvOK_parts h
  have h42 := mvOK_42 h
  have h45 := mvOK_45 h
  by_cases e : s.toList = []
  · obtain rfl := h0 e
    have es : s = ⟨#[]⟩ := bs_toList_inj (by rw [e]; decide +kernel)
    subst es
    decide +kernel
  · by_cases g : n > 1
    · have ht : mvTxt s n = s ++ (⟨#[42]⟩ : ByteArray) ++ itT n := by unfold mvTxt; rw [if_neg e, if_pos g]
      have hd : (mvTxt s n).data.toList = s.data.toList ++ 42 :: (itT n).data.toList := by rw [ht]; simp [ByteArray.data_append]
      have hs : bsOf s.data.toList = s := bsOf_self s
      have hn : n = 2 ∨ n = 3 := by omega
      unfold psV
      rw [if_pos (by rw [hd]; simp), ct_at hd h42, hs]
      simp only []
      rcases hn with rfl | rfl
      · rw [if_pos ⟨by rw [← bs_list, bsOf_list, it2], h⟩]
      · rw [if_neg (fun e2 => by rw [← bs_list, bsOf_list, it3] at e2; exact absurd e2.1 (by decide)), if_pos ⟨by rw [← bs_list, bsOf_list, it3], h⟩]
    · have hn : n = 1 := by omega
      subst hn
      have ht : mvTxt s 1 = s := by unfold mvTxt; rw [if_neg e, if_neg (by decide)]
      rw [ht]
      unfold psV
      rw [if_neg h42, if_neg (fun e2 => by rw [← bs_list] at e2; exact h45 (by rw [e2]; simp)), if_pos ⟨h, e⟩]
end Go.Proofs.YtgpkeclojbcgoaaGreatDoor.PA
