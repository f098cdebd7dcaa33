/- What undone and redone edits leave. -/
import Derived.Test.YtgpkeclojbcgoaaQDesks
namespace Go.Proofs.Ytgpkeclojbcgoaa.PA
open Go.RowKit Go.Proofs.YtgpkeclojbcgoaaW.PrintWords Go.Proofs.YtgpkeclojbcgoaaW.PrintLast Go.Proofs.YtgpkeclojbcgoaaW.PrintMore
set_option linter.unusedVariables false
set_option linter.unusedSimpArgs false
theorem last_split {α : Type} {l : List α} (h : ¬ (l.length : Int) = 0) : ∃ b x, l = b ++ [x] := by
  have hn : l ≠ [] := by intro e; subst e; exact h rfl
  exact ⟨l.dropLast, l.getLast hn, (List.dropLast_concat_getLast hn).symm⟩
theorem last_take {α : Type} (b : List α) (x : α) : (b ++ [x]).take ((((b ++ [x]).length : Nat) : Int) - 1).toNat = b := by
  rw [show ((((b ++ [x]).length : Nat) : Int) - 1).toNat = b.length by simp, List.take_left]
theorem last_rd (b : List S38) (x : S38) : rd_T38 (b ++ [x]) ((((b ++ [x]).length : Nat) : Int) - 1) = x := by
  have h : ((((b ++ [x]).length : Nat) : Int) - 1) = (b.length : Int) := by simp
  rw [h, rdE _ _ (by simp)]
  simp
theorem udV_yes {a : List ByteArray} {b c : List S38} (h : gdV a b c = true) (hk : (udV a b c).2.2.2 = true) : ∃ b' x, b = b' ++ [x] ∧ udV a b c = (a, b', c ++ [x], true) ∧ gdV a b' (c ++ [x]) = true := by
  unfold udV at hk ⊢
  rw [if_pos h] at hk ⊢
  by_cases h0 : (b.length : Int) = 0
  · rw [if_pos h0] at hk; simp [noD] at hk
  · obtain ⟨b', x, rfl⟩ := last_split h0
    rw [if_neg h0, last_take, last_rd]
    refine ⟨b', x, rfl, rfl, ?_⟩
    obtain ⟨p1, p2, l, p3⟩ := gdV_parts.mp h
    refine gdV_parts.mpr ⟨p1, by simp at p2 ⊢; omega, l, by simpa using p3⟩
theorem rdV_yes {a : List ByteArray} {b c : List S38} (h : gdV a b c = true) (hk : (rdV a b c).2.2.2 = true) : ∃ c' x, c = c' ++ [x] ∧ rdV a b c = (a, b ++ [x], c', true) ∧ gdV a (b ++ [x]) c' = true := by
  unfold rdV at hk ⊢
  rw [if_pos h] at hk ⊢
  by_cases h0 : (c.length : Int) = 0
  · rw [if_pos h0] at hk; simp [noD] at hk
  · obtain ⟨c', x, rfl⟩ := last_split h0
    rw [if_neg h0, last_take, last_rd]
    refine ⟨c', x, rfl, rfl, ?_⟩
    obtain ⟨p1, p2, l, p3⟩ := gdV_parts.mp h
    refine gdV_parts.mpr ⟨p1, by simp at p2 ⊢; omega, l, by simpa using p3⟩
/-- A valid desk of lists that are not too large. -/
def DeskG (a : List ByteArray) (b c : List S38) : Prop := gdV a b c = true ∧ DOk a b c
theorem edV_d {a : List ByteArray} {b c : List S38} {e : S38} (h : DeskG a b c) (h2 : e.f2.size ≤ 1048576) (h3 : e.f3.size ≤ 1048576) (hk : (edV a b e).2.2.2 = true) : DeskG (edV a b e).1 (edV a b e).2.1 (edV a b e).2.2.1 := by
  obtain ⟨e1, e2, _⟩ := edV_yes h.1 hk
  have g2 := gdV_small h.1
  have hd := h.2
  rw [e1]
  refine ⟨e2, hd.1, ⟨by simp; omega, fun x hx => ?_⟩, by simp, fun x hx => by cases hx⟩
  rcases List.mem_append.mp hx with h1 | h1
  · exact hd.2.1.2 x h1
  · obtain rfl := List.mem_singleton.mp h1; exact ⟨h2, h3⟩
theorem noD_no : ¬ (noD).2.2.2 = true := by simp [noD]
theorem inV_d {a : List ByteArray} {b c : List S38} {i : Int} {g : ByteArray} (h : DeskG a b c) (hg : g.size ≤ 1048576) (hk : (inV a b c i g).2.2.2 = true) : DeskG (inV a b c i g).1 (inV a b c i g).2.1 (inV a b c i g).2.2.1 := by
  unfold inV at hk ⊢
  rw [if_pos h.1] at hk ⊢
  exact edV_d h hg (Nat.zero_le _) hk
theorem rpV_d {a : List ByteArray} {b c : List S38} {i : Int} {g : ByteArray} (h : DeskG a b c) (hg : g.size ≤ 1048576) (hk : (rpV a b c i g).2.2.2 = true) : DeskG (rpV a b c i g).1 (rpV a b c i g).2.1 (rpV a b c i g).2.2.1 := by
  unfold rpV at hk ⊢
  rw [if_pos h.1] at hk ⊢
  exact edV_d h hg (atV_size (now_items h.1 h.2) i) hk
theorem dlV_d {a : List ByteArray} {b c : List S38} {i : Int} (h : DeskG a b c) (hk : (dlV a b c i).2.2.2 = true) : DeskG (dlV a b c i).1 (dlV a b c i).2.1 (dlV a b c i).2.2.1 := by
  unfold dlV at hk ⊢
  rw [if_pos h.1] at hk ⊢
  exact edV_d h (Nat.zero_le _) (atV_size (now_items h.1 h.2) i) hk
theorem udV_d {a : List ByteArray} {b c : List S38} (h : DeskG a b c) (hk : (udV a b c).2.2.2 = true) : DeskG (udV a b c).1 (udV a b c).2.1 (udV a b c).2.2.1 := by
  obtain ⟨b', x, rfl, e, hg⟩ := udV_yes h.1 hk
  have g2 := gdV_small hg
  obtain ⟨d1, ⟨d2, d3⟩, d4, d5⟩ := h.2
  rw [e]
  refine ⟨hg, d1, ⟨by simp at d2; simp only []; omega, fun y hy => d3 y (List.mem_append_left _ hy)⟩, by simp at g2 ⊢; omega, fun y hy => ?_⟩
  rcases List.mem_append.mp hy with h1 | h1
  · exact d5 y h1
  · exact d3 y (List.mem_append_right _ h1)
theorem rdV_d {a : List ByteArray} {b c : List S38} (h : DeskG a b c) (hk : (rdV a b c).2.2.2 = true) : DeskG (rdV a b c).1 (rdV a b c).2.1 (rdV a b c).2.2.1 := by
  obtain ⟨c', x, rfl, e, hg⟩ := rdV_yes h.1 hk
  have g2 := gdV_small hg
  obtain ⟨d1, ⟨d2, d3⟩, d4, d5⟩ := h.2
  rw [e]
  refine ⟨hg, d1, ⟨by simp at g2 ⊢; omega, fun y hy => ?_⟩, by simp at d4; simp only []; omega, fun y hy => d5 y (List.mem_append_left _ hy)⟩
  rcases List.mem_append.mp hy with h1 | h1
  · exact d3 y h1
  · exact d5 y (List.mem_append_right _ h1)
end Go.Proofs.Ytgpkeclojbcgoaa.PA
