/- The plain law of one more edit of a desk. -/
import Derived.Test.YtmmpnigbfiebbaaPAx11
import Derived.Test.YtmmpnigbfiebbaaPAx5
import Derived.Test.YtmmpnigbfiebbaaPAx10
import Derived.Test.YtmmpnigbfiebbaaQUnDesk
import Derived.Test.YtmmpnigbfiebbaaQItemsAfterI
namespace Go.Proofs.Ytmmpnigbfiebbaa.PA
open Go.RowKit Go.Proofs.YtmmpnigbfiebbaaW.PrintWords Go.Proofs.YtmmpnigbfiebbaaW.PrintLast Go.Proofs.YtmmpnigbfiebbaaW.PrintMore
set_option linter.unusedVariables false
set_option linter.unusedSimpArgs false
theorem spec_unNow_ev {a : List ByteArray} {b c : List S25} (h : DOk a b c) (ha : a.length ≤ 20) : Ev (fun k => spec_unNow.f k a b c) (umR (uaV a b)).1 := by
  unfold spec_unNow.f
  exact Ev.bind (spec_unAfter_ev a ha b h.2.1.1 h.2.1.2) (Ev.now _)
theorem impl_ItemsNow_ev {a : List ByteArray} {b c : List S25} (h : DOk a b c) : Ev (fun k => impl_ItemsNow.f k a b c) (iaV a b c (b.length : Int)) := by
  unfold impl_ItemsNow.f
  exact Ev.bind (impl_ItemsAfter_ev h _) (Ev.now _)
theorem umV_items {M : Nat} {l l' : List ByteArray} {e : S25} (h : umV l e = some l') (hl : ∀ x ∈ l, x.size ≤ M) (he : e.f2.size ≤ M) : ∀ x ∈ l', x.size ≤ M := by
  unfold umV at h
  have key : ∀ i j, l' = l.take i ++ e.f2 :: l.drop j ∨ l' = l.take i ++ l.drop j → ∀ x ∈ l', x.size ≤ M := by
    rintro i j (rfl | rfl) x hx
    · rcases List.mem_append.mp hx with h1 | h1
      · exact hl x (List.mem_of_mem_take h1)
      · rcases List.mem_cons.mp h1 with rfl | h2
        · exact he
        · exact hl x (List.mem_of_mem_drop h2)
    · rcases List.mem_append.mp hx with h1 | h1
      · exact hl x (List.mem_of_mem_take h1)
      · exact hl x (List.mem_of_mem_drop h1)
  split at h
  · split at h
    · split at h
      · cases h
      · split at h
        · cases h
        · exact key _ _ (.inl (Option.some.inj h).symm)
    · split at h
      · cases h
      · split at h
        · cases h
        · split at h
          · exact key _ _ (.inl (Option.some.inj h).symm)
          · exact key _ _ (.inr (Option.some.inj h).symm)
  · cases h
theorem uaV_items {M : Nat} : ∀ (es : List S25) (l l' : List ByteArray), uaV l es = some l' → (∀ x ∈ l, x.size ≤ M) → (∀ e ∈ es, e.f2.size ≤ M) → ∀ x ∈ l', x.size ≤ M
  | [], l, l', h, hl, _ => by simp only [uaV, Option.some.injEq] at h; subst h; exact hl
  | e :: es, l, l', h, hl, he => by
    simp only [uaV] at h
    cases hu : umV l e with
    | none => rw [hu] at h; cases h
    | some m => rw [hu] at h; exact uaV_items es m l' (by simpa using h) (umV_items hu hl (he e (List.mem_cons_self ..))) (fun x hx => he x (List.mem_cons_of_mem _ hx))
/-- The items now, of a valid desk. -/
def nowV (a : List ByteArray) (b : List S25) : List ByteArray := (umR (uaV a b)).1
theorem now_some {a : List ByteArray} {b c : List S25} (h : gdV a b c = true) : uaV a b = some (nowV a b) := by
  have h1 := gdV_take h b.length
  rw [List.take_left] at h1
  unfold nowV
  cases hu : uaV a b with
  | none => rw [hu] at h1; cases h1
  | some l => rfl
theorem now_len {a : List ByteArray} {b c : List S25} (h : gdV a b c = true) : (nowV a b).length ≤ 20 := umR_len (gdV_items h) b
theorem now_items {a : List ByteArray} {b c : List S25} (h : gdV a b c = true) (hd : DOk a b c) : ∀ x ∈ nowV a b, x.size ≤ 1048576 :=
  uaV_items b a _ (now_some h) hd.1.2 (fun e he => (hd.2.1.2 e he).1)
/-- A desk after one more edit. -/
def edV (a : List ByteArray) (b : List S25) (e : S25) : List ByteArray × List S25 × List S25 × Bool := if (umV (nowV a b) e).isSome = true then (if (b.length : Int) = 30 then noD else (a, b ++ [e], [], true)) else noD
theorem edV_len {a : List ByteArray} {b c : List S25} (h : gdV a b c = true) (e : S25) : Short (edV a b e) := by
  have h1 := gdV_items h
  have h2 := gdV_small h
  unfold edV Short
  split
  · split
    · simp [noD]
    · simp; omega
  · simp [noD]
theorem edV_none {a : List ByteArray} {b : List S25} {e : S25} (h : deV e.f0 e.f1 e.f2 e.f3 = false) : edV a b e = noD := by
  have hn : umV (nowV a b) e = none := by unfold umV; exact if_neg (by rw [h]; decide)
  unfold edV
  rw [hn]
  rfl
theorem spec_unDo_ev {a : List ByteArray} {b c : List S25} (h : gdV a b c = true) (hd : DOk a b c) (e : S25) (h2 : e.f2.size ≤ 1048576) (h3 : e.f3.size ≤ 1048576) : Ev (fun k => spec_unDo.f k a b c e.f0 e.f1 e.f2 e.f3) (edV a b e) := by
  have g1 := gdV_items h
  have g2 := gdV_small h
  unfold spec_unDo.f edV
  refine Ev.bind (spec_unNow_ev hd g1) ?_
  refine Ev.bind (spec_unMake_ev _ (now_len h) e h2 h3) ?_
  show Ev (fun k => if (umR (umV (nowV a b) e)).2 = true then _ else _) _
  cases hu : umV (nowV a b) e with
  | none => simp only [umR, Option.isSome_none, Bool.false_eq_true, if_false]; exact Ev.now _
  | some l =>
    simp only [umR, Option.isSome_some, if_true]
    by_cases h30 : (b.length : Int) = 30
    · simp only [if_pos h30]; exact Ev.now _
    · simp only [if_neg h30, Option.bind_some]
      refine Ev.congr (f := fun _ => some (a, b ++ [e], [], true)) (fun k => ?_) (Ev.now _)
      rw [if_pos (by simp; omega), if_pos (by simp; omega), unDesk_val _ _ _ _ _ (by omega) (by simp; omega) (by simp)]
      rfl
/-- What the program's (Desk).edited does, behind the items. -/
theorem edited_ev {a : List ByteArray} {b c : List S25} (h : gdV a b c = true) (hd : DOk a b c) (e : S25) (h2 : e.f2.size ≤ 1048576) (h3 : e.f3.size ≤ 1048576) (h30 : ¬ (b.length : Int) = 30) :
    Ev (fun k => (impl_IsDesk.f k a (b ++ [e]) []).bind fun t => if t = true then some (a, b ++ [e], [], true) else some ([], [], [], false)) (edV a b e) := by
  have g1 := gdV_items h
  have g2 := gdV_small h
  have hd2 : DOk a (b ++ [e]) [] := ⟨hd.1, ⟨by simp; omega, fun x hx => by
    rcases List.mem_append.mp hx with h1 | h1
    · exact hd.2.1.2 x h1
    · obtain rfl := List.mem_singleton.mp h1; exact ⟨h2, h3⟩⟩, by simp, fun x hx => by cases hx⟩
  have hi : itOK a = true := by
    cases hc : itOK a with
    | true => rfl
    | false => unfold gdV at h; rw [if_neg (by rw [hc]; decide)] at h; cases h
  have hg : gdV a (b ++ [e]) [] = (umV (nowV a b) e).isSome := by
    unfold gdV
    rw [if_pos hi, if_neg (by simp; omega), List.reverse_nil, List.append_nil, uaV_append, now_some h]
    simp only [Option.bind_some, uaV]
    cases umV (nowV a b) e <;> rfl
  refine Ev.bind (impl_IsDesk_ev hd2) ?_
  rw [hg]
  unfold edV
  rw [if_neg h30]
  cases (umV (nowV a b) e).isSome
  · exact Ev.now _
  · exact Ev.now _
theorem now_iaV {a : List ByteArray} {b c : List S25} (h : gdV a b c = true) : iaV a b c (b.length : Int) = (nowV a b, true) := by
  unfold iaV nowV
  rw [if_pos ⟨h, by omega, by omega⟩]
  simp
theorem bad_iaV {a : List ByteArray} {b c : List S25} (h : ¬ gdV a b c = true) (n : Int) : iaV a b c n = ([], false) := by
  unfold iaV
  rw [if_neg (fun e => h e.1)]
theorem clone_ok (a : List ByteArray) (h : a.length ≤ 20) : slices_Clone_string_string.f a = some a := by
  unfold slices_Clone_string_string.f
  rw [if_pos (by omega)]
theorem cloneE_ok (b : List S25) (h : b.length ≤ 30) : impl_DeskEdit_69.f b = some b := by
  unfold impl_DeskEdit_69.f
  rw [if_pos (by omega)]
end Go.Proofs.Ytmmpnigbfiebbaa.PA
