/- The plain law of what the statements about desks do with lists: copies and sizes of texts, comparisons. -/
import Derived.Test.YtmmpnigbfiebbaaPAx3
import Derived.Test.YtmmpnigbfiebbaaQDeskQ
namespace Go.Proofs.Ytmmpnigbfiebbaa.PA
open Go.RowKit Go.Proofs.YtmmpnigbfiebbaaW.PrintWords Go.Proofs.YtmmpnigbfiebbaaW.PrintLast Go.Proofs.YtmmpnigbfiebbaaW.PrintMore
set_option linter.unusedVariables false
set_option linter.unusedSimpArgs false
theorem rdO (l : List ByteArray) (i : Nat) (h : i < l.length) : rdOf ByteArray.empty l (i : Int) = l[i] := by
  unfold rdOf; rw [List.getD_eq_getElem?_getD]; simp [h]
theorem rdE (l : List S25) (i : Nat) (h : i < l.length) : rd_T25 l (i : Int) = l[i] := by
  unfold rd_T25; rw [List.getD_eq_getElem?_getD]; simp [h]
theorem set_keeps {α : Type} {acc l : List α} {i : Nat} (x : α) (hx : l[i]? = some x) (hi : i < acc.length) (h : ∀ j, j < i → acc[j]? = l[j]?) : ∀ j, j < i + 1 → (acc.set i x)[j]? = l[j]? := by
  intro j hj
  by_cases e : j = i
  · subst e; rw [List.getElem?_set_self hi, hx]
  · rw [List.getElem?_set_ne (by omega)]; exact h j (by omega)
theorem all_keeps {α : Type} {acc l : List α} (hl : acc.length = l.length) (h : ∀ j, j < l.length → acc[j]? = l[j]?) : acc = l := by
  apply List.ext_getElem?
  intro j
  by_cases hj : j < l.length
  · exact h j hj
  · rw [List.getElem?_eq_none (by omega), List.getElem?_eq_none (by omega)]

/-! ### Copies -/
theorem toStr_from (l : List ByteArray) (hl : l.length < 4611686018427387904) : ∀ (d i : Nat) (acc : List ByteArray), l.length - i = d → i ≤ l.length → acc.length = l.length → (∀ j, j < i → acc[j]? = l[j]?) → Ev (fun k => laws_toStringS.l0 k l acc (i : Int)) l := by
  intro d
  induction d with
  | zero =>
    intro i acc hd hi ha h
    refine ⟨1, fun k hk => ?_⟩
    obtain ⟨k, rfl⟩ : ∃ m, k = m + 1 := ⟨k - 1, by omega⟩
    simp only [laws_toStringS.l0]
    rw [if_neg (by omega), all_keeps ha (fun j hj => h j (by omega))]
  | succ d ih =>
    intro i acc hd hi ha h
    have hlt : i < l.length := by omega
    refine Ev.step (f := fun k => laws_toStringS.l0 k l (acc.set i l[i]) ((i + 1 : Nat) : Int)) (fun k => ?_) ?_
    · simp only [laws_toStringS.l0]
      rw [if_pos (by omega), if_pos (by omega), if_pos (by omega), w64_succ (by omega), rdO l i hlt, Int.toNat_natCast]
    · exact ih (i + 1) _ (by omega) (by omega) (by rw [List.length_set]; exact ha) (set_keeps _ (List.getElem?_eq_getElem hlt) (by omega) h)
theorem toStr_ev (l : List ByteArray) (hl : l.length ≤ 1048576) : Ev (fun k => laws_toStringS.f k l) l := by
  unfold laws_toStringS.f
  have h := toStr_from l (by omega) _ 0 (List.replicate ((l.length : Int) : Int).toNat (⟨#[]⟩ : ByteArray)) rfl (Nat.zero_le _) (by simp) (fun j hj => by omega)
  exact Ev.congr (fun k => by rw [if_pos (by omega), if_pos (by omega)]; rfl) h
/-! ### Comparisons -/
theorem eqStr_from (l : List ByteArray) (hl : l.length < 4611686018427387904) : ∀ (d i : Nat), l.length - i = d → i ≤ l.length → Ev (fun k => laws_eqStringS.l0 k l l (i : Int)) true := by
  intro d
  induction d with
  | zero =>
    intro i hd hi
    refine ⟨1, fun k hk => ?_⟩
    obtain ⟨k, rfl⟩ : ∃ m, k = m + 1 := ⟨k - 1, by omega⟩
    simp only [laws_eqStringS.l0]
    rw [if_neg (by omega)]
  | succ d ih =>
    intro i hd hi
    refine Ev.step (f := fun k => laws_eqStringS.l0 k l l ((i + 1 : Nat) : Int)) (fun k => ?_) (ih (i + 1) (by omega) (by omega))
    simp only [laws_eqStringS.l0]
    rw [if_pos (by omega), if_pos (by omega), if_pos (by omega), w64_succ (by omega)]
    simp only [if_true]
theorem eqStr_ev (l : List ByteArray) (hl : l.length < 4611686018427387904) : Ev (fun k => laws_eqStringS.f k l l) true := by
  unfold laws_eqStringS.f
  exact Ev.congr (fun k => if_pos rfl) (eqStr_from l hl _ 0 rfl (Nat.zero_le _))
theorem eqEd_from (l : List S25) (hl : l.length < 4611686018427387904) : ∀ (d i : Nat), l.length - i = d → i ≤ l.length → Ev (fun k => laws_eqDeskEditS.l0 k l l (i : Int)) true := by
  intro d
  induction d with
  | zero =>
    intro i hd hi
    refine ⟨1, fun k hk => ?_⟩
    obtain ⟨k, rfl⟩ : ∃ m, k = m + 1 := ⟨k - 1, by omega⟩
    simp only [laws_eqDeskEditS.l0]
    rw [if_neg (by omega)]
  | succ d ih =>
    intro i hd hi
    refine Ev.step (f := fun k => laws_eqDeskEditS.l0 k l l ((i + 1 : Nat) : Int)) (fun k => ?_) (ih (i + 1) (by omega) (by omega))
    simp only [laws_eqDeskEditS.l0, eqDeskEdit_same, Option.bind_some, if_true]
    rw [if_pos (by omega), if_pos (by omega), if_pos (by omega), w64_succ (by omega)]
theorem eqEd_ev (l : List S25) (hl : l.length < 4611686018427387904) : Ev (fun k => laws_eqDeskEditS.f k l l) true := by
  unfold laws_eqDeskEditS.f
  exact Ev.congr (fun k => if_pos rfl) (eqEd_from l hl _ 0 rfl (Nat.zero_le _))
theorem eqDesk_ev (a : List ByteArray) (b c : List S25) (ha : a.length < 4611686018427387904) (hb : b.length < 4611686018427387904) (hc : c.length < 4611686018427387904) : Ev (fun k => laws_eqDesk.f k a b c a b c) true := by
  unfold laws_eqDesk.f
  refine Ev.bind (eqStr_ev a ha) ?_
  simp only [if_true]
  refine Ev.bind (eqEd_ev b hb) ?_
  simp only [if_true]
  refine Ev.bind (eqEd_ev c hc) ?_
  simp only [if_true]
  exact Ev.now _

/-! ### Sizes -/
theorem szStr_from (l : List ByteArray) (hV : ∀ x ∈ l, x.size ≤ 9223372036854775807) (hl : l.length < 4611686018427387904) : ∀ (d i : Nat) (a : Int), l.length - i = d → i ≤ l.length → 0 ≤ a → a ≤ 1048576 →
    ∃ r, Ev (fun k => laws_szStringS.l0 k l a (i : Int)) r ∧ (r = -1 ∨ (0 ≤ r ∧ r ≤ a ∧ ∀ j, i ≤ j → ∀ x, l[j]? = some x → x.size ≤ 1048576)) := by
  intro d
  induction d with
  | zero =>
    intro i a hd hi h0 h1
    refine ⟨a, ⟨1, fun k hk => ?_⟩, .inr ⟨h0, Int.le_refl _, fun j hj x hx => ?_⟩⟩
    · obtain ⟨k, rfl⟩ : ∃ m, k = m + 1 := ⟨k - 1, by omega⟩
      simp only [laws_szStringS.l0]
      rw [if_neg (by omega)]
    · rw [List.getElem?_eq_none (by omega)] at hx; cases hx
  | succ d ih =>
    intro i a hd hi h0 h1
    have hlt : i < l.length := by omega
    have hx := hV l[i] (List.getElem_mem hlt)
    by_cases hn : a - (l[i].size : Int) < 0
    · refine ⟨-1, ⟨1, fun k hk => ?_⟩, .inl rfl⟩
      obtain ⟨k, rfl⟩ : ∃ m, k = m + 1 := ⟨k - 1, by omega⟩
      simp only [laws_szStringS.l0]
      rw [if_pos (by omega), if_pos (by omega), rdO l i hlt, w64_i (by omega) (by omega), if_pos hn]
    · obtain ⟨r, hr, h⟩ := ih (i + 1) (a - (l[i].size : Int)) (by omega) (by omega) (by omega) (by omega)
      refine ⟨r, Ev.step (f := fun k => laws_szStringS.l0 k l (a - (l[i].size : Int)) ((i + 1 : Nat) : Int)) (fun k => ?_) hr, ?_⟩
      · simp only [laws_szStringS.l0]
        rw [if_pos (by omega), if_pos (by omega), rdO l i hlt, w64_i (x := a - (l[i].size : Int)) (by omega) (by omega), if_neg hn, w64_succ (by omega)]
      · rcases h with h | ⟨h2, h3, h4⟩
        · exact .inl h
        · refine .inr ⟨h2, by omega, fun j hj x hx' => ?_⟩
          by_cases e : j = i
          · subst e
            rw [List.getElem?_eq_getElem hlt] at hx'
            obtain rfl := Option.some.inj hx'
            omega
          · exact h4 j (by omega) x hx'
theorem szStr_ev (l : List ByteArray) (hV : ∀ x ∈ l, x.size ≤ 9223372036854775807) (hl : l.length ≤ 9223372036854775807) (a : Int) (h0 : 0 ≤ a) (h1 : a ≤ 1048576) :
    ∃ r, Ev (fun k => laws_szStringS.f k l a) r ∧ (r = -1 ∨ (0 ≤ r ∧ r ≤ a ∧ l.length ≤ 1048576 ∧ ∀ x ∈ l, x.size ≤ 1048576)) := by
  unfold laws_szStringS.f
  by_cases hn : a - (l.length : Int) < 0
  · exact ⟨-1, Ev.congr (f := fun _ => some (-1)) (fun k => by rw [w64_i (by omega) (by omega), if_pos hn]) (Ev.now _), .inl rfl⟩
  · obtain ⟨r, hr, h⟩ := szStr_from l hV (by omega) _ 0 (a - (l.length : Int)) rfl (Nat.zero_le _) (by omega) (by omega)
    refine ⟨r, Ev.congr (fun k => by rw [w64_i (by omega) (by omega), if_neg hn]; rfl) hr, ?_⟩
    rcases h with h | ⟨h2, h3, h4⟩
    · exact .inl h
    · refine .inr ⟨h2, by omega, by omega, fun x hx => ?_⟩
      obtain ⟨j, hj, rfl⟩ := List.getElem_of_mem hx
      exact h4 j (Nat.zero_le _) _ (List.getElem?_eq_getElem hj)
end Go.Proofs.Ytmmpnigbfiebbaa.PA
