/- The plain law of the items after some edits: lists of edits. -/
import Derived.Test.YtmmpnigbfiebbaaQDesk
namespace Go.Proofs.Ytmmpnigbfiebbaa.PA
open Go.RowKit Go.Proofs.YtmmpnigbfiebbaaW.PrintWords Go.Proofs.YtmmpnigbfiebbaaW.PrintLast Go.Proofs.YtmmpnigbfiebbaaW.PrintMore
set_option linter.unusedVariables false
set_option linter.unusedSimpArgs false
theorem uaV_append : ∀ (es fs : List S25) (l : List ByteArray), uaV l (es ++ fs) = (uaV l es).bind fun l' => uaV l' fs
  | [], fs, l => rfl
  | e :: es, fs, l => by
    simp only [List.cons_append, uaV]
    cases umV l e with
    | none => rfl
    | some l' => simpa using uaV_append es fs l'
theorem uaV_len : ∀ (es : List S25) (l l' : List ByteArray), uaV l es = some l' → l.length ≤ 20 → l'.length ≤ 20
  | [], l, l', h, hl => by simp only [uaV, Option.some.injEq] at h; subst h; exact hl
  | e :: es, l, l', h, hl => by
    simp only [uaV] at h
    cases hu : umV l e with
    | none => rw [hu] at h; cases h
    | some m => rw [hu] at h; exact uaV_len es m l' (by simpa using h) (umV_len hu hl)
theorem umR_len {a : List ByteArray} (ha : a.length ≤ 20) (es : List S25) : (umR (uaV a es)).1.length ≤ 20 := by
  cases h : uaV a es with
  | none => simp [umR]
  | some l => exact uaV_len es a l h ha
theorem gdV_items {a : List ByteArray} {b c : List S25} (h : gdV a b c = true) : a.length ≤ 20 := by
  unfold gdV at h
  split at h
  · rename_i hi; exact itOK_len hi
  · cases h
theorem gdV_small {a : List ByteArray} {b c : List S25} (h : gdV a b c = true) : (b.length : Int) + (c.length : Int) ≤ 30 := by
  unfold gdV at h
  split at h
  · split at h
    · cases h
    · omega
  · cases h
/-- The first edits of a valid desk can be made. -/
theorem gdV_take {a : List ByteArray} {b c : List S25} (h : gdV a b c = true) (n : Nat) : (umR (uaV a ((b ++ c.reverse).take n))).2 = true := by
  unfold gdV at h
  split at h
  · split at h
    · cases h
    · rw [← List.take_append_drop n (b ++ c.reverse), uaV_append] at h
      cases hu : uaV a ((b ++ c.reverse).take n) with
      | none => rw [hu] at h; cases h
      | some l => rfl
  · cases h
theorem take_ok {es : List S25} (h : ∀ e ∈ es, e.f2.size ≤ 1048576 ∧ e.f3.size ≤ 1048576) (n : Nat) : ∀ e ∈ es.take n, e.f2.size ≤ 1048576 ∧ e.f3.size ≤ 1048576 := fun e he => h e (List.mem_of_mem_take he)
def iaV (a : List ByteArray) (b c : List S25) (n : Int) : List ByteArray × Bool := if gdV a b c = true ∧ (0 ≤ n ∧ n ≤ (b.length : Int) + (c.length : Int)) then ((umR (uaV a ((b ++ c.reverse).take n.toNat))).1, true) else ([], false)
theorem iaV_len (a : List ByteArray) (b c : List S25) (n : Int) : (iaV a b c n).1.length ≤ 20 := by
  unfold iaV
  split
  · rename_i h; exact umR_len (gdV_items h.1) _
  · simp
end Go.Proofs.Ytmmpnigbfiebbaa.PA
