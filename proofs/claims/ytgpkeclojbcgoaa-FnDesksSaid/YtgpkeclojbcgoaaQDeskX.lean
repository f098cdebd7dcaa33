/- What is undone can be done again. -/
import Derived.Test.YtgpkeclojbcgoaaQDeskW
namespace Go.Proofs.Ytgpkeclojbcgoaa.PA
open Go.RowKit Go.Proofs.YtgpkeclojbcgoaaW.PrintWords Go.Proofs.YtgpkeclojbcgoaaW.PrintLast Go.Proofs.YtgpkeclojbcgoaaW.PrintMore
set_option linter.unusedVariables false
set_option linter.unusedSimpArgs false
theorem udV_ok (a : List ByteArray) (b c : List S38) : (udV a b c).2.2.2 = (gdV a b c && decide (0 < b.length)) := by
  unfold udV
  cases h : gdV a b c with
  | false => simp [noD]
  | true =>
    rw [if_pos rfl]
    cases b with
    | nil => simp [noD]
    | cons x t => rw [if_neg (by simp; omega)]; simp
theorem rdV_ok (a : List ByteArray) (b c : List S38) : (rdV a b c).2.2.2 = (gdV a b c && decide (0 < c.length)) := by
  unfold rdV
  cases h : gdV a b c with
  | false => simp [noD]
  | true =>
    rw [if_pos rfl]
    cases c with
    | nil => simp [noD]
    | cons x t => rw [if_neg (by simp; omega)]; simp
theorem rd_back {a : List ByteArray} {b c : List S38} {x : S38} (h : gdV a b (c ++ [x]) = true) : rdV a b (c ++ [x]) = (a, b ++ [x], c, true) := by
  unfold rdV
  rw [if_pos h, if_neg (by simp; try omega), last_take, last_rd]
theorem ud_back {a : List ByteArray} {b c : List S38} {x : S38} (h : gdV a (b ++ [x]) c = true) : udV a (b ++ [x]) c = (a, b, c ++ [x], true) := by
  unfold udV
  rw [if_pos h, if_neg (by simp; try omega), last_take, last_rd]
theorem ia_last {a : List ByteArray} {b c : List S38} {x : S38} (h : gdV a (b ++ [x]) c = true) : iaV a (b ++ [x]) c ((((b ++ [x]).length : Nat) : Int) - 1) = (nowV a b, true) := by
  unfold iaV nowV
  rw [if_pos ⟨h, by simp <;> omega, by omega⟩]
  have e : ((((b ++ [x]).length : Nat) : Int) - 1).toNat = b.length := by simp
  rw [e, List.append_assoc, List.take_left]
theorem last_good {a : List ByteArray} {b c : List S38} {x : S38} (h : gdV a (b ++ [x]) c = true) : deV x.f0 x.f1 x.f2 x.f3 = true := by
  obtain ⟨_, _, l, p⟩ := gdV_parts.mp h
  rw [List.append_assoc, uaV_append] at p
  cases hu : uaV a b with
  | none => rw [hu] at p; cases p
  | some m =>
    rw [hu] at p
    simp only [Option.bind_some, List.singleton_append, uaV] at p
    unfold umV at p
    split at p
    · assumption
    · cases p
theorem inV_yes {a : List ByteArray} {b r : List S38} {i : Int} {g : ByteArray} (hk : (inV a b r i g).2.2.2 = true) :
    gdV a b r = true ∧ ((nowV (inV a b r i g).1 (inV a b r i g).2.1).length : Int) = ((nowV a b).length : Int) + 1 ∧ 0 ≤ i ∧ i < ((nowV (inV a b r i g).1 (inV a b r i g).2.1).length : Int) ∧ rdOf ByteArray.empty (nowV (inV a b r i g).1 (inV a b r i g).2.1) i = g ∧ (inV a b r i g).2.2.1 = [] ∧ ((inV a b r i g).2.1.length : Int) = (b.length : Int) + 1 := by
  unfold inV at hk ⊢
  by_cases h : gdV a b r = true
  · rw [if_pos h] at hk ⊢
    obtain ⟨e1, e2, e3⟩ := edV_yes h hk
    obtain ⟨p1, p2, p3, p4⟩ := umV_ins e3 rfl
    rw [e1]
    exact ⟨h, p1, p2, p3, p4, rfl, by simp⟩
  · rw [if_neg h] at hk; simp [noD] at hk
end Go.Proofs.Ytgpkeclojbcgoaa.PA
