/- What draws of numbers and texts come to: the cursor goes on, and what is drawn lies in its range. -/
import Derived.Test.YtolhmpagpoidjaaGreatPAx1
import Derived.Test.YtolhmpagpoidjaaGreatBase
import Derived.Laws.Bits64b
namespace Go.Proofs.YtolhmpagpoidjaaGreat.PA
open Go.RowKit Go.Proofs.YtolhmpagpoidjaaGreatW.PrintWords Go.Proofs.YtolhmpagpoidjaaGreatW.PrintLast Go.Proofs.YtolhmpagpoidjaaGreatW.PrintMore
set_option linter.unusedVariables false
set_option linter.unusedSimpArgs false
/-- A cursor over bytes, at a place of at most M. -/
def Cur (c : List Int) (i M : Int) : Prop := (∀ x ∈ c, 0 ≤ x ∧ x ≤ 255) ∧ 0 ≤ i ∧ i ≤ M
theorem Cur.le {c : List Int} {i M N : Int} (h : Cur c i M) (hm : M ≤ N) : Cur c i N := ⟨h.1, h.2.1, Int.le_trans h.2.2 hm⟩
theorem cw64 {x : Int} (h0 : -9223372036854775808 ≤ x) (h1 : x ≤ 9223372036854775807) : wrap64 x = x := by
  unfold wrap64; omega
theorem and255 (z : Int) : 0 ≤ wrap64 (Go.bits .and .u64 (IntKind.u64.wrap z / 1099511627776) 255) ∧ wrap64 (Go.bits .and .u64 (IntKind.u64.wrap z / 1099511627776) 255) ≤ 255 := by
  rw [IntKind.wrap_u64]
  obtain ⟨n, hn⟩ : ∃ n : Nat, z % 18446744073709551616 / 1099511627776 = (n : Int) := ⟨(z % 18446744073709551616 / 1099511627776).toNat, by omega⟩
  rw [hn, show (255 : Int) = ((255 : Nat) : Int) from rfl, bits_and_u64_nat n 255 (by omega) (by decide)]
  have := @Nat.and_le_right n 255
  rw [cw64 (by omega) (by omega)]
  omega
theorem next_val {c : List Int} {i M : Int} (s : Int) (h : Cur c i M) (hM : M ≤ 1000000000000) : ∃ v i' s', spec_l1Cur_next.f c i s = some (v, c, i', s') ∧ Cur c i' (M + 1) ∧ 0 ≤ v ∧ v ≤ 255 := by
  obtain ⟨hb, h0, h1⟩ := h
  unfold spec_l1Cur_next.f
  rw [cw64 (x := i + 1) (by omega) (by omega)]
  by_cases hc : i < (c.length : Int)
  · have hr : 0 ≤ rd c i ∧ rd c i ≤ 255 := by
      unfold rd
      rw [List.getD_eq_getElem?_getD, List.getElem?_eq_getElem (by omega)]
      exact hb _ (List.getElem_mem ..)
    rw [if_pos hc, if_pos h0, if_pos hc, if_pos (by omega)]
    refine ⟨_, _, _, rfl, ⟨hb, by omega, by omega⟩, ?_⟩
    rw [cw64 (by omega) (by omega)]
    exact hr
  · rw [if_neg hc, if_neg (by omega)]
    exact ⟨_, _, _, rfl, ⟨hb, by omega, by omega⟩, and255 _⟩
theorem pick_val {c : List Int} {i M : Int} (s : Int) (h : Cur c i M) (hM : M ≤ 100000000000) (n : Int) : ∃ v i' s', spec_l1Cur_pick.f c i s n = some (v, c, i', s') ∧ Cur c i' (M + 2) ∧ 0 ≤ v ∧ (1 ≤ n → v < n) := by
  unfold spec_l1Cur_pick.f
  by_cases hn : n ≤ 1
  · rw [if_pos hn]
    exact ⟨_, _, _, rfl, h.le (by omega), by omega, by omega⟩
  · rw [if_neg hn]
    obtain ⟨v, i1, s1, e1, h1, p1, p2⟩ := next_val s h (by omega)
    rw [e1, Option.bind_some]
    by_cases h2 : n > 200
    · rw [if_pos h2]
      obtain ⟨v2, i2, s2, e2, h2', q1, q2⟩ := next_val s1 h1 (by omega)
      rw [e2, Option.bind_some, if_neg (by omega), cw64 (x := v * 256) (by omega) (by omega), cw64 (by omega) (by omega)]
      exact ⟨_, _, _, rfl, h2'.le (by omega), Int.tmod_nonneg _ (by omega), fun _ => Int.tmod_lt_of_pos _ (by omega)⟩
    · rw [if_neg h2, if_neg (by omega)]
      exact ⟨_, _, _, rfl, h1.le (by omega), Int.tmod_nonneg _ (by omega), fun _ => Int.tmod_lt_of_pos _ (by omega)⟩
/-- There is something that it comes to, and that is so. -/
def Evs {α : Type} (g : Nat → Option α) (Q : α → Prop) : Prop := ∃ b, Ev g b ∧ Q b
theorem Evs.now {α : Type} {Q : α → Prop} {b : α} (h : Q b) : Evs (fun _ => some b) Q := ⟨b, Ev.now _, h⟩
theorem Evs.of {α : Type} {g : Nat → Option α} {Q : α → Prop} {b : α} (h : Ev g b) (hq : Q b) : Evs g Q := ⟨b, h, hq⟩
theorem Evs.val {α : Type} {x : Option α} {Q : α → Prop} (h : ∃ a, x = some a ∧ Q a) : Evs (fun _ => x) Q := by
  obtain ⟨a, rfl, hq⟩ := h
  exact Evs.now hq
theorem Evs.shift {α : Type} {g : Nat → Option α} {Q : α → Prop} (h : Evs (fun k => g (k + 1)) Q) : Evs g Q := by
  obtain ⟨b, hb, hq⟩ := h
  exact ⟨b, Ev.step (fun _ => rfl) hb, hq⟩
theorem Evs.mono {α : Type} {g : Nat → Option α} {P Q : α → Prop} (h : Evs g P) (hq : ∀ b, P b → Q b) : Evs g Q := by
  obtain ⟨b, hb, hp⟩ := h
  exact ⟨b, hb, hq b hp⟩
theorem Evs.congr {α : Type} {f g : Nat → Option α} {Q : α → Prop} (hfg : ∀ k, g k = f k) (h : Evs f Q) : Evs g Q := by
  obtain ⟨b, hb, hq⟩ := h
  exact ⟨b, Ev.congr hfg hb, hq⟩
theorem Evs.bind {α β : Type} {x : Nat → Option α} {f : Nat → α → Option β} {P : α → Prop} {Q : β → Prop} (h : Evs x P) (g : ∀ a, P a → Evs (fun k => f k a) Q) : Evs (fun k => (x k).bind fun a => f k a) Q := by
  obtain ⟨a, ha, hp⟩ := h
  obtain ⟨b, hb, hq⟩ := g a hp
  exact ⟨b, Ev.bind ha hb, hq⟩
theorem Evs.ite {α : Type} {c : Prop} [Decidable c] {A B : Nat → Option α} {Q : α → Prop} (h1 : c → Evs A Q) (h2 : ¬ c → Evs B Q) : Evs (fun k => if c then A k else B k) Q := by
  by_cases h : c
  · exact Evs.congr (fun k => if_pos h) (h1 h)
  · exact Evs.congr (fun k => if_neg h) (h2 h)
theorem Evs.yes {α : Type} {c : Prop} [Decidable c] {A B : Nat → Option α} {Q : α → Prop} (h : c) (h1 : Evs A Q) : Evs (fun k => if c then A k else B k) Q := Evs.congr (fun k => if_pos h) h1
theorem Evs.no {α : Type} {c : Prop} [Decidable c] {A B : Nat → Option α} {Q : α → Prop} (h : ¬ c) (h1 : Evs B Q) : Evs (fun k => if c then A k else B k) Q := Evs.congr (fun k => if_neg h) h1
/-- A value that was drawn, with the cursor behind it. -/
def Drew {α : Type} (c : List Int) (M : Int) (R : α → Prop) (a : α × List Int × Int × Int) : Prop := a.2.1 = c ∧ Cur c a.2.2.1 M ∧ R a.1
theorem pick_d {c : List Int} {i M : Int} (s : Int) (h : Cur c i M) (hM : M ≤ 100000000000) (n : Int) : Evs (fun _ => spec_l1Cur_pick.f c i s n) (Drew c (M + 2) fun v => 0 ≤ v ∧ (1 ≤ n → v < n)) := by
  obtain ⟨v, i', s', e, h1, p⟩ := pick_val s h hM n
  exact Evs.val ⟨_, e, rfl, h1, p⟩
theorem one_d {c : List Int} {i M : Int} (s : Int) (h : Cur c i M) (hM : M ≤ 100000000000) (n : Int) : Evs (fun _ => spec_l1Cur_one.f c i s n) (Drew c (M + 2) fun _ => True) := by
  unfold spec_l1Cur_one.f
  refine Evs.bind (pick_d s h hM n) ?_
  rintro ⟨v, c1, i1, s1⟩ ⟨rfl, h1, _⟩
  exact Evs.now ⟨rfl, h1, trivial⟩
theorem among_d {c : List Int} {i M : Int} (s : Int) (h : Cur c i M) (hM : M ≤ 100000000000) {R : Int → Prop} (l : List Int) (hl : 1 ≤ l.length) (hR : ∀ x ∈ l, R x) : Evs (fun _ => spec_l1Cur_among.f c i s l) (Drew c (M + 2) R) := by
  unfold spec_l1Cur_among.f
  refine Evs.bind (pick_d s h hM _) ?_
  rintro ⟨v, c1, i1, s1⟩ ⟨rfl, h1, p1, p2⟩
  have p2 := p2 (by omega)
  simp only [] at p1 p2
  refine Evs.yes p1 (Evs.yes p2 (Evs.now ⟨rfl, h1, hR _ ?_⟩))
  simp only []
  unfold rd
  rw [List.getD_eq_getElem?_getD, List.getElem?_eq_getElem (by omega)]
  exact List.getElem_mem ..
theorem of_d {c : List Int} {i M : Int} (s : Int) (h : Cur c i M) (hM : M ≤ 100000000000) {R : ByteArray → Prop} (l : List ByteArray) (hl : 1 ≤ l.length) (hR : ∀ x ∈ l, R x) : Evs (fun _ => spec_l1Cur_of.f c i s l) (Drew c (M + 2) R) := by
  unfold spec_l1Cur_of.f
  refine Evs.bind (pick_d s h hM _) ?_
  rintro ⟨v, c1, i1, s1⟩ ⟨rfl, h1, p1, p2⟩
  have p2 := p2 (by omega)
  simp only [] at p1 p2
  refine Evs.yes p1 (Evs.yes p2 (Evs.now ⟨rfl, h1, hR _ ?_⟩))
  simp only []
  unfold rdOf
  rw [List.getD_eq_getElem?_getD, List.getElem?_eq_getElem (by omega)]
  exact List.getElem_mem ..
end Go.Proofs.YtolhmpagpoidjaaGreat.PA
