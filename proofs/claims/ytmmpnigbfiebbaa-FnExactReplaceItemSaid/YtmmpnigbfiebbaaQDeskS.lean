/- The plain law of what the statements about desks do with given desks: their sizes, and the desk of a given one. -/
import Derived.Test.YtmmpnigbfiebbaaPAx5
import Derived.Test.YtmmpnigbfiebbaaQDeskE
import Derived.Test.YtmmpnigbfiebbaaQDeskL
namespace Go.Proofs.Ytmmpnigbfiebbaa.PA
open Go.RowKit Go.Proofs.YtmmpnigbfiebbaaW.PrintWords Go.Proofs.YtmmpnigbfiebbaaW.PrintLast Go.Proofs.YtmmpnigbfiebbaaW.PrintMore
set_option linter.unusedVariables false
set_option linter.unusedSimpArgs false
theorem rdL (l : List S23) (i : Nat) (h : i < l.length) : rd_T23 l (i : Int) = l[i] := by
  unfold rd_T23; rw [List.getD_eq_getElem?_getD]; simp [h]
/-- The edit of a given one. -/
def tdE (x : S23) : S25 := ⟨x.f0, x.f1, x.f2, x.f3⟩
theorem toEd_from (l : List S23) (hl : l.length < 4611686018427387904) : ∀ (d i : Nat) (acc : List S25), l.length - i = d → i ≤ l.length → acc.length = l.length → (∀ j, j < i → acc[j]? = (l.map tdE)[j]?) → Ev (fun k => laws_toDeskEditS.l0 k l acc (i : Int)) (l.map tdE) := by
  intro d
  induction d with
  | zero =>
    intro i acc hd hi ha h
    refine ⟨1, fun k hk => ?_⟩
    obtain ⟨k, rfl⟩ : ∃ m, k = m + 1 := ⟨k - 1, by omega⟩
    simp only [laws_toDeskEditS.l0]
    rw [if_neg (by omega), all_keeps (l := l.map tdE) (by simpa using ha) (fun j hj => h j (by simp at hj; omega))]
  | succ d ih =>
    intro i acc hd hi ha h
    have hlt : i < l.length := by omega
    refine Ev.step (f := fun k => laws_toDeskEditS.l0 k l (acc.set i (tdE l[i])) ((i + 1 : Nat) : Int)) (fun k => ?_) ?_
    · simp only [laws_toDeskEditS.l0, laws_toDeskEdit.f, Option.bind_some]
      rw [if_pos (by omega), if_pos (by omega), if_pos (by omega), w64_succ (by omega), rdL l i hlt, Int.toNat_natCast]
      rfl
    · exact ih (i + 1) _ (by omega) (by omega) (by rw [List.length_set]; exact ha) (set_keeps _ (by rw [List.getElem?_map, List.getElem?_eq_getElem hlt]; rfl) (by omega) h)
theorem toEd_ev (l : List S23) (hl : l.length ≤ 1048576) : Ev (fun k => laws_toDeskEditS.f k l) (l.map tdE) := by
  unfold laws_toDeskEditS.f
  have h := toEd_from l (by omega) _ 0 (List.replicate ((l.length : Int) : Int).toNat z25) rfl (Nat.zero_le _) (by simp) (fun j hj => by omega)
  exact Ev.congr (fun k => by rw [if_pos (by omega), if_pos (by omega)]; rfl) h
theorem toDesk_ev (a : List ByteArray) (b c : List S23) (ha : a.length ≤ 1048576) (hb : b.length ≤ 1048576) (hc : c.length ≤ 1048576) : Ev (fun k => laws_toDesk.f k a b c) (a, b.map tdE, c.map tdE) := by
  unfold laws_toDesk.f
  exact Ev.bind (toStr_ev a ha) (Ev.bind (toEd_ev b hb) (Ev.bind (toEd_ev c hc) (Ev.now _)))

theorem szEd_from (l : List S23) (hV : ∀ x ∈ l, x.f2.size ≤ 9223372036854775807 ∧ x.f3.size ≤ 9223372036854775807) (hl : l.length < 4611686018427387904) : ∀ (d i : Nat) (a : Int), l.length - i = d → i ≤ l.length → 0 ≤ a → a ≤ 1048576 →
    ∃ r, Ev (fun k => laws_szDeskEditS.l0 k l a (i : Int)) r ∧ (r = -1 ∨ (0 ≤ r ∧ r ≤ a ∧ ∀ j, i ≤ j → ∀ x, l[j]? = some x → x.f2.size ≤ 1048576 ∧ x.f3.size ≤ 1048576)) := by
  intro d
  induction d with
  | zero =>
    intro i a hd hi h0 h1
    refine ⟨a, ⟨1, fun k hk => ?_⟩, .inr ⟨h0, Int.le_refl _, fun j hj x hx => ?_⟩⟩
    · obtain ⟨k, rfl⟩ : ∃ m, k = m + 1 := ⟨k - 1, by omega⟩
      simp only [laws_szDeskEditS.l0]
      rw [if_neg (by omega)]
    · rw [List.getElem?_eq_none (by omega)] at hx; cases hx
  | succ d ih =>
    intro i a hd hi h0 h1
    have hlt : i < l.length := by omega
    obtain ⟨hx2, hx3⟩ := hV l[i] (List.getElem_mem hlt)
    by_cases hn : (l[i].f2.size : Int) + (l[i].f3.size : Int) ≤ a
    · obtain ⟨r, hr, h⟩ := ih (i + 1) (a - (l[i].f2.size : Int) - (l[i].f3.size : Int)) (by omega) (by omega) (by omega) (by omega)
      refine ⟨r, Ev.step (f := fun k => laws_szDeskEditS.l0 k l (a - (l[i].f2.size : Int) - (l[i].f3.size : Int)) ((i + 1 : Nat) : Int)) (fun k => ?_) hr, ?_⟩
      · simp only [laws_szDeskEditS.l0]
        rw [if_pos (by omega), if_pos (by omega), rdL l i hlt, szDeskEdit_small _ _ _ _ a hx2 hx3 h0 h1 hn, Option.bind_some, if_neg (by omega), w64_succ (by omega)]
      · rcases h with h | ⟨h2, h3, h4⟩
        · exact .inl h
        · refine .inr ⟨h2, by omega, fun j hj x hx' => ?_⟩
          by_cases e : j = i
          · subst e
            rw [List.getElem?_eq_getElem hlt] at hx'
            obtain rfl := Option.some.inj hx'
            omega
          · exact h4 j (by omega) x hx'
    · refine ⟨-1, ⟨1, fun k hk => ?_⟩, .inl rfl⟩
      obtain ⟨k, rfl⟩ : ∃ m, k = m + 1 := ⟨k - 1, by omega⟩
      simp only [laws_szDeskEditS.l0]
      rw [if_pos (by omega), if_pos (by omega), rdL l i hlt, szDeskEdit_big _ _ _ _ a hx2 hx3 h0 h1 (by omega), Option.bind_some, if_pos (by omega)]
theorem szEd_ev (l : List S23) (hV : ∀ x ∈ l, x.f2.size ≤ 9223372036854775807 ∧ x.f3.size ≤ 9223372036854775807) (hl : l.length ≤ 9223372036854775807) (a : Int) (h0 : 0 ≤ a) (h1 : a ≤ 1048576) :
    ∃ r, Ev (fun k => laws_szDeskEditS.f k l a) r ∧ (r = -1 ∨ (0 ≤ r ∧ r ≤ a ∧ l.length ≤ 1048576 ∧ ∀ x ∈ l, x.f2.size ≤ 1048576 ∧ x.f3.size ≤ 1048576)) := by
  unfold laws_szDeskEditS.f
  by_cases hn : a - (l.length : Int) < 0
  · exact ⟨-1, Ev.congr (f := fun _ => some (-1)) (fun k => by rw [w64_i (by omega) (by omega), if_pos hn]) (Ev.now _), .inl rfl⟩
  · obtain ⟨r, hr, h⟩ := szEd_from l hV (by omega) _ 0 (a - (l.length : Int)) rfl (Nat.zero_le _) (by omega) (by omega)
    refine ⟨r, Ev.congr (fun k => by rw [w64_i (by omega) (by omega), if_neg hn]; rfl) hr, ?_⟩
    rcases h with h | ⟨h2, h3, h4⟩
    · exact .inl h
    · refine .inr ⟨h2, by omega, by omega, fun x hx => ?_⟩
      obtain ⟨j, hj, rfl⟩ := List.getElem_of_mem hx
      exact h4 j (Nat.zero_le _) _ (List.getElem?_eq_getElem hj)
/-- A given desk of lists that are not too large. -/
def DeskOk (a : List ByteArray) (b c : List S23) : Prop :=
  (a.length ≤ 1048576 ∧ ∀ x ∈ a, x.size ≤ 1048576) ∧ (b.length ≤ 1048576 ∧ ∀ x ∈ b, x.f2.size ≤ 1048576 ∧ x.f3.size ≤ 1048576) ∧ (c.length ≤ 1048576 ∧ ∀ x ∈ c, x.f2.size ≤ 1048576 ∧ x.f3.size ≤ 1048576)
theorem szDesk_ev (a : List ByteArray) (b c : List S23) (hVa : ∀ x ∈ a, x.size ≤ 9223372036854775807) (hla : a.length ≤ 9223372036854775807)
    (hVb : ∀ x ∈ b, x.f2.size ≤ 9223372036854775807 ∧ x.f3.size ≤ 9223372036854775807) (hlb : b.length ≤ 9223372036854775807) (hVc : ∀ x ∈ c, x.f2.size ≤ 9223372036854775807 ∧ x.f3.size ≤ 9223372036854775807) (hlc : c.length ≤ 9223372036854775807) (m : Int) (h0 : 0 ≤ m) (h1 : m ≤ 1048576) :
    ∃ r, Ev (fun k => laws_szDesk.f k a b c m) r ∧ (r < 0 ∨ (0 ≤ r ∧ r ≤ m ∧ DeskOk a b c)) := by
  unfold laws_szDesk.f
  obtain ⟨r1, e1, q1⟩ := szStr_ev a hVa hla m h0 h1
  rcases q1 with rfl | ⟨z1, y1, x1⟩
  · exact ⟨-1, Ev.bind e1 (Ev.congr (f := fun _ => some (-1)) (fun k => if_pos (by omega)) (Ev.now _)), .inl (by omega)⟩
  obtain ⟨r2, e2, q2⟩ := szEd_ev b hVb hlb r1 z1 (by omega)
  rcases q2 with rfl | ⟨z2, y2, x2⟩
  · exact ⟨-1, Ev.bind e1 (Ev.congr (fun k => if_neg (by omega)) (Ev.bind e2 (Ev.congr (f := fun _ => some (-1)) (fun k => if_pos (by omega)) (Ev.now _)))), .inl (by omega)⟩
  obtain ⟨r3, e3, q3⟩ := szEd_ev c hVc hlc r2 z2 (by omega)
  rcases q3 with rfl | ⟨z3, y3, x3⟩
  · exact ⟨-1, Ev.bind e1 (Ev.congr (fun k => if_neg (by omega)) (Ev.bind e2 (Ev.congr (fun k => if_neg (by omega)) (Ev.bind e3 (Ev.congr (f := fun _ => some (-1)) (fun k => if_pos (by omega)) (Ev.now _)))))), .inl (by omega)⟩
  exact ⟨r3, Ev.bind e1 (Ev.congr (fun k => if_neg (by omega)) (Ev.bind e2 (Ev.congr (fun k => if_neg (by omega)) (Ev.bind e3 (Ev.congr (f := fun _ => some r3) (fun k => if_neg (by omega)) (Ev.now _)))))), .inr ⟨z3, by omega, x1, x2, x3⟩⟩
end Go.Proofs.Ytmmpnigbfiebbaa.PA
