/- The plain law of the marks: what is marked is held. -/
import Derived.Test.YtmmpnigbfiebbaaPAx4
import Derived.Test.YtmmpnigbfiebbaaPAx7
import Derived.Test.YtmmpnigbfiebbaaQDeskL
namespace Go.Proofs.Ytmmpnigbfiebbaa.PA
open Go.RowKit Go.Proofs.YtmmpnigbfiebbaaW.PrintWords Go.Proofs.YtmmpnigbfiebbaaW.PrintLast Go.Proofs.YtmmpnigbfiebbaaW.PrintMore
set_option linter.unusedVariables false
set_option linter.unusedSimpArgs false
theorem one_num (x : Int) : (strOfNums [x]).size = 1 := by simp [strOfNums, ByteArray.size]
theorem mkText_from : ∀ (n : Nat) (i : Int) (x : ByteArray), 0 ≤ i → i.toNat ≤ n → i ≤ 9223372036854775807 → x.size + n ≤ 4000000000000000000 → ∃ t, Ev (fun k => laws_markText.l0 k i x) t := by
  intro n
  induction n with
  | zero =>
    intro i x h0 hn h1 hs
    refine ⟨(⟨#[109]⟩ : ByteArray) ++ x, ⟨1, fun k hk => ?_⟩⟩
    obtain ⟨k, rfl⟩ : ∃ m, k = m + 1 := ⟨k - 1, by omega⟩
    simp only [laws_markText.l0]
    rw [if_neg (by omega), if_pos (by omega)]
  | succ n ih =>
    intro i x h0 hn h1 hs
    by_cases hp : i > 0
    · have e : wrap64 (Int.tdiv i 10) = i / 10 := by rw [Int.tdiv_eq_ediv_of_nonneg h0, w64_i (by omega) (by omega)]
      obtain ⟨t, ht⟩ := ih (i / 10) (strOfNums [(wrap64 (48 + (Int.tmod i 10))) % 256] ++ x) (by omega) (by omega) (by omega) (by rw [ByteArray.size_append, one_num]; omega)
      refine ⟨t, Ev.step (fun k => ?_) ht⟩
      simp only [laws_markText.l0, Option.bind_some]
      rw [if_pos hp, if_pos (by rw [one_num]; omega), e]
    · refine ⟨(⟨#[109]⟩ : ByteArray) ++ x, ⟨1, fun k hk => ?_⟩⟩
      obtain ⟨k, rfl⟩ : ∃ m, k = m + 1 := ⟨k - 1, by omega⟩
      simp only [laws_markText.l0]
      rw [if_neg hp, if_pos (by omega)]
theorem mkText_some (i : Int) (h : i ≤ 2000000000000) : ∃ t, Ev (fun k => laws_markText.f k i) t := by
  unfold laws_markText.f
  by_cases h0 : i ≤ 0
  · exact ⟨_, Ev.congr (fun k => if_pos h0) (Ev.now _)⟩
  · obtain ⟨t, ht⟩ := mkText_from i.toNat i (⟨#[]⟩ : ByteArray) (by omega) (Nat.le_refl _) (by omega) (by show 0 + i.toNat ≤ _; omega)
    exact ⟨t, Ev.congr (fun k => if_neg h0) ht⟩
/-- The text of a mark. -/
noncomputable def mtx (i : Int) : ByteArray := if h : i ≤ 2000000000000 then (mkText_some i h).choose else ⟨#[]⟩
theorem mtx_ev (i : Int) (h : i ≤ 2000000000000) : Ev (fun k => laws_markText.f k i) (mtx i) := by
  unfold mtx
  rw [dif_pos h]
  exact (mkText_some i h).choose_spec
/-- Marked texts. -/
noncomputable def mkS (n : Int) (m : Nat) : List ByteArray := (List.range m).map fun (j : Nat) => mtx (n + (j : Int))
theorem mkS_length (n : Int) (m : Nat) : (mkS n m).length = m := by simp [mkS]
theorem mkS_get (n : Int) (m j : Nat) (h : j < m) : (mkS n m)[j]? = some (mtx (n + (j : Int))) := by
  unfold mkS; rw [List.getElem?_map, List.getElem?_range h]; rfl
theorem mkStr_from (n : Int) (m : Nat) (h0 : 0 ≤ n) (hn : n ≤ 1000000000) (hm : m ≤ 1048576) : ∀ (d i : Nat) (acc : List ByteArray), m - i = d → i ≤ m → acc.length = m → (∀ j, j < i → acc[j]? = (mkS n m)[j]?) → Ev (fun k => laws_markStringS.l0 k acc (n + (i : Int)) (i : Int)) (n + (m : Int), mkS n m) := by
  intro d
  induction d with
  | zero =>
    intro i acc hd hi ha h
    have hm' : i = m := by omega
    refine ⟨1, fun k hk => ?_⟩
    obtain ⟨k, rfl⟩ : ∃ m, k = m + 1 := ⟨k - 1, by omega⟩
    simp only [laws_markStringS.l0]
    rw [if_neg (by omega), all_keeps (l := mkS n m) (by rw [mkS_length]; exact ha) (fun j hj => h j (by rw [mkS_length] at hj; omega)), hm']
  | succ d ih =>
    intro i acc hd hi ha h
    have hlt : i < m := by omega
    refine Ev.step (f := fun k => (laws_markText.f k (n + (i : Int))).bind fun t => laws_markStringS.l0 k (acc.set i t) (n + ((i + 1 : Nat) : Int)) ((i + 1 : Nat) : Int)) (fun k => ?_) ?_
    · simp only [laws_markStringS.l0]
      rw [if_pos (by omega), w64_succ (by omega), w64_i (x := n + (i : Int) + 1) (by omega) (by omega), Int.toNat_natCast, show n + (i : Int) + 1 = n + ((i + 1 : Nat) : Int) by omega]
      simp only [if_pos (show (0 : Int) ≤ (i : Int) by omega)]
    · exact Ev.bind (mtx_ev _ (by omega)) (ih (i + 1) _ (by omega) (by omega) (by rw [List.length_set]; exact ha) (set_keeps _ (mkS_get n m i hlt) (by omega) h))
theorem mkStr_ev (l : List ByteArray) (n : Int) (h0 : 0 ≤ n) (hn : n ≤ 1000000000) (hm : l.length ≤ 1048576) : Ev (fun k => laws_markStringS.f k l n) (n + (l.length : Int), mkS n l.length) := by
  unfold laws_markStringS.f
  have h := mkStr_from n l.length h0 hn hm _ 0 l rfl (Nat.zero_le _) rfl (fun j hj => by omega)
  rw [show n + ((0 : Nat) : Int) = n by omega] at h
  exact h
theorem hdStr_from (n : Int) (m : Nat) (h0 : 0 ≤ n) (hn : n ≤ 1000000000) (hm : m ≤ 1048576) : ∀ (d i : Nat), m - i = d → i ≤ m → Ev (fun k => laws_heldStringS.l0 k (mkS n m) (n + (i : Int)) (i : Int)) (n + (m : Int)) := by
  intro d
  induction d with
  | zero =>
    intro i hd hi
    have hm' : i = m := by omega
    refine ⟨1, fun k hk => ?_⟩
    obtain ⟨k, rfl⟩ : ∃ m, k = m + 1 := ⟨k - 1, by omega⟩
    simp only [laws_heldStringS.l0]
    rw [if_neg (by rw [mkS_length]; omega), hm']
  | succ d ih =>
    intro i hd hi
    have hlt : i < m := by omega
    have hg : rdOf ByteArray.empty (mkS n m) (i : Int) = mtx (n + (i : Int)) := by
      rw [rdO _ i (by rw [mkS_length]; exact hlt)]
      have := mkS_get n m i hlt
      rw [List.getElem?_eq_getElem (by rw [mkS_length]; exact hlt)] at this
      exact Option.some.inj this
    refine Ev.step (f := fun k => (laws_markText.f k (n + (i : Int))).bind fun t => if (mtx (n + (i : Int))).toList = t.toList then laws_heldStringS.l0 k (mkS n m) (n + ((i + 1 : Nat) : Int)) ((i + 1 : Nat) : Int) else some (-1)) (fun k => ?_) ?_
    · simp only [laws_heldStringS.l0]
      rw [if_pos (by rw [mkS_length]; omega), if_pos (by omega), w64_succ (by omega), w64_i (x := n + (i : Int) + 1) (by omega) (by omega), show n + (i : Int) + 1 = n + ((i + 1 : Nat) : Int) by omega, hg]
    · refine Ev.bind (mtx_ev _ (by omega)) ?_
      exact Ev.congr (fun k => if_pos rfl) (ih (i + 1) (by omega) (by omega))
theorem hdStr_ev (n : Int) (m : Nat) (h0 : 0 ≤ n) (hn : n ≤ 1000000000) (hm : m ≤ 1048576) : Ev (fun k => laws_heldStringS.f k (mkS n m) n) (n + (m : Int)) := by
  unfold laws_heldStringS.f
  have h := hdStr_from n m h0 hn hm _ 0 rfl (Nat.zero_le _)
  rw [show n + ((0 : Nat) : Int) = n by omega] at h
  exact h
/-- Marked edits. -/
noncomputable def mkEd (n : Int) (j : Nat) : S25 := ⟨n + 4 * (j : Int), n + 4 * (j : Int) + 1, mtx (n + 4 * (j : Int) + 1 + 1), mtx (n + 4 * (j : Int) + 1 + 1 + 1)⟩
noncomputable def mkE (n : Int) (m : Nat) : List S25 := (List.range m).map (mkEd n)
theorem mkE_length (n : Int) (m : Nat) : (mkE n m).length = m := by simp [mkE]
theorem mkE_get (n : Int) (m j : Nat) (h : j < m) : (mkE n m)[j]? = some (mkEd n j) := by
  unfold mkE; rw [List.getElem?_map, List.getElem?_range h]; rfl
theorem rd_set (l : List S25) (i : Nat) (h : i < l.length) (x : S25) : rd_T25 (l.set i x) (i : Int) = x := by
  rw [rdE _ i (by rw [List.length_set]; exact h)]; simp
theorem mkEds_from (n : Int) (m : Nat) (h0 : 0 ≤ n) (hn : n ≤ 1000000000) (hm : m ≤ 1048576) : ∀ (d i : Nat) (acc : List S25), m - i = d → i ≤ m → acc.length = m → (∀ j, j < i → acc[j]? = (mkE n m)[j]?) → Ev (fun k => laws_markDeskEditS.l0 k acc (n + 4 * (i : Int)) (i : Int)) (n + 4 * (m : Int), mkE n m) := by
  intro d
  induction d with
  | zero =>
    intro i acc hd hi ha h
    have hm' : i = m := by omega
    refine ⟨1, fun k hk => ?_⟩
    obtain ⟨k, rfl⟩ : ∃ m, k = m + 1 := ⟨k - 1, by omega⟩
    simp only [laws_markDeskEditS.l0]
    rw [if_neg (by omega), all_keeps (l := mkE n m) (by rw [mkE_length]; exact ha) (fun j hj => h j (by rw [mkE_length] at hj; omega)), hm']
  | succ d ih =>
    intro i acc hd hi ha h
    have hlt : i < m := by omega
    have hlt' : i < acc.length := by omega
    refine Ev.step (f := fun k => (laws_markText.f k (n + 4 * (i : Int) + 1 + 1)).bind fun t => (laws_markText.f k (n + 4 * (i : Int) + 1 + 1 + 1)).bind fun u => laws_markDeskEditS.l0 k (acc.set i ⟨n + 4 * (i : Int), n + 4 * (i : Int) + 1, t, u⟩) (n + 4 * ((i + 1 : Nat) : Int)) ((i + 1 : Nat) : Int)) (fun k => ?_) ?_
    · simp only [laws_markDeskEditS.l0, Option.bind_some]
      rw [if_pos (by omega), if_pos (by omega), w64_succ (by omega), w64_i (x := n + 4 * (i : Int) + 1) (by omega) (by omega), w64_i (x := n + 4 * (i : Int) + 1 + 1) (by omega) (by omega), w64_i (x := n + 4 * (i : Int) + 1 + 1 + 1) (by omega) (by omega), w64_i (x := n + 4 * (i : Int) + 1 + 1 + 1 + 1) (by omega) (by omega), show n + 4 * (i : Int) + 1 + 1 + 1 + 1 = n + 4 * ((i + 1 : Nat) : Int) by omega]
      simp only [Int.toNat_natCast, rd_set, List.length_set, hlt', List.set_set]
    · exact Ev.bind (mtx_ev _ (by omega)) (Ev.bind (mtx_ev _ (by omega)) (ih (i + 1) _ (by omega) (by omega) (by rw [List.length_set]; exact ha) (set_keeps _ (mkE_get n m i hlt) (by omega) h)))
theorem mkEds_ev (l : List S25) (n : Int) (h0 : 0 ≤ n) (hn : n ≤ 1000000000) (hm : l.length ≤ 1048576) : Ev (fun k => laws_markDeskEditS.f k l n) (n + 4 * (l.length : Int), mkE n l.length) := by
  unfold laws_markDeskEditS.f
  have h := mkEds_from n l.length h0 hn hm _ 0 l rfl (Nat.zero_le _) rfl (fun j hj => by omega)
  rw [show n + 4 * ((0 : Nat) : Int) = n by omega] at h
  exact h
theorem hdEds_from (n : Int) (m : Nat) (h0 : 0 ≤ n) (hn : n ≤ 1000000000) (hm : m ≤ 1048576) : ∀ (d i : Nat), m - i = d → i ≤ m → Ev (fun k => laws_heldDeskEditS.l0 k (mkE n m) (n + 4 * (i : Int)) (i : Int)) (n + 4 * (m : Int)) := by
  intro d
  induction d with
  | zero =>
    intro i hd hi
    have hm' : i = m := by omega
    refine ⟨1, fun k hk => ?_⟩
    obtain ⟨k, rfl⟩ : ∃ m, k = m + 1 := ⟨k - 1, by omega⟩
    simp only [laws_heldDeskEditS.l0]
    rw [if_neg (by rw [mkE_length]; omega), hm']
  | succ d ih =>
    intro i hd hi
    have hlt : i < m := by omega
    have hg : rd_T25 (mkE n m) (i : Int) = mkEd n i := by
      rw [rdE _ i (by rw [mkE_length]; exact hlt)]
      have := mkE_get n m i hlt
      rw [List.getElem?_eq_getElem (by rw [mkE_length]; exact hlt)] at this
      exact Option.some.inj this
    refine Ev.step (f := fun k => (laws_markText.f k (n + 4 * (i : Int) + 1 + 1)).bind fun t => if (mtx (n + 4 * (i : Int) + 1 + 1)).toList = t.toList then (laws_markText.f k (n + 4 * (i : Int) + 1 + 1 + 1)).bind fun u => (if (mtx (n + 4 * (i : Int) + 1 + 1 + 1)).toList = u.toList then laws_heldDeskEditS.l0 k (mkE n m) (n + 4 * ((i + 1 : Nat) : Int)) ((i + 1 : Nat) : Int) else some (-1)) else some (-1)) (fun k => ?_) ?_
    · simp only [laws_heldDeskEditS.l0]
      rw [hg]
      simp only [mkEd]
      rw [if_pos (by rw [mkE_length]; omega), if_pos (by omega), w64_succ (by omega), w64_i (x := n + 4 * (i : Int) + 1) (by omega) (by omega)]
      simp only [if_true]
      rw [w64_i (x := n + 4 * (i : Int) + 1 + 1) (by omega) (by omega), w64_i (x := n + 4 * (i : Int) + 1 + 1 + 1) (by omega) (by omega), w64_i (x := n + 4 * (i : Int) + 1 + 1 + 1 + 1) (by omega) (by omega), show n + 4 * (i : Int) + 1 + 1 + 1 + 1 = n + 4 * ((i + 1 : Nat) : Int) by omega]
      rfl
    · refine Ev.bind (mtx_ev _ (by omega)) ?_
      refine Ev.congr (fun k => if_pos rfl) ?_
      refine Ev.bind (mtx_ev _ (by omega)) ?_
      exact Ev.congr (fun k => if_pos rfl) (ih (i + 1) (by omega) (by omega))
theorem hdEds_ev (n : Int) (m : Nat) (h0 : 0 ≤ n) (hn : n ≤ 1000000000) (hm : m ≤ 1048576) : Ev (fun k => laws_heldDeskEditS.f k (mkE n m) n) (n + 4 * (m : Int)) := by
  unfold laws_heldDeskEditS.f
  have h := hdEds_from n m h0 hn hm _ 0 rfl (Nat.zero_le _)
  rw [show n + 4 * ((0 : Nat) : Int) = n by omega] at h
  exact h
/-- A marked desk, and the number of its marks. -/
theorem mkDesk_ev (a : List ByteArray) (b c : List S25) (ha : a.length ≤ 1048576) (hb : b.length ≤ 1048576) (hc : c.length ≤ 1048576) :
    ∃ (m : Int) (a' : List ByteArray) (b' c' : List S25), 0 ≤ m ∧ Ev (fun k => laws_markDesk.f k a b c 1) (m, a', b', c') ∧ Ev (fun k => laws_heldDesk.f k a' b' c' 1) m := by
  refine ⟨1 + (a.length : Int) + 4 * (b.length : Int) + 4 * (c.length : Int), mkS 1 a.length, mkE (1 + (a.length : Int)) b.length, mkE (1 + (a.length : Int) + 4 * (b.length : Int)) c.length, by omega, ?_, ?_⟩
  · unfold laws_markDesk.f
    exact Ev.bind (mkStr_ev a 1 (by omega) (by omega) ha) (Ev.bind (mkEds_ev b _ (by omega) (by omega) hb) (Ev.bind (mkEds_ev c _ (by omega) (by omega) hc) (Ev.now _)))
  · unfold laws_heldDesk.f
    exact Ev.bind (hdStr_ev 1 a.length (by omega) (by omega) ha) (Ev.congr (fun k => if_neg (by omega)) (Ev.bind (hdEds_ev _ b.length (by omega) (by omega) hb) (Ev.congr (fun k => if_neg (by omega)) (Ev.bind (hdEds_ev _ c.length (by omega) (by omega) hc) (Ev.congr (f := fun _ => some (1 + (a.length : Int) + 4 * (b.length : Int) + 4 * (c.length : Int))) (fun k => if_neg (by omega)) (Ev.now _))))))
end Go.Proofs.Ytmmpnigbfiebbaa.PA
