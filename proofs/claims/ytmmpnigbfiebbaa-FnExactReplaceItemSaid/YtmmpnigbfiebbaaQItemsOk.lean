/- The plain law of valid items. -/
import Derived.Test.YtmmpnigbfiebbaaPAx3
import Derived.Test.YtmmpnigbfiebbaaQDeskL
namespace Go.Proofs.Ytmmpnigbfiebbaa.PA
open Go.RowKit Go.Proofs.YtmmpnigbfiebbaaW.PrintWords Go.Proofs.YtmmpnigbfiebbaaW.PrintLast Go.Proofs.YtmmpnigbfiebbaaW.PrintMore
set_option linter.unusedVariables false
set_option linter.unusedSimpArgs false
def itOK (l : List ByteArray) : Bool := l.all glOK && decide (l.length ≤ 20)
theorem spec_items_from (l : List ByteArray) (hl : l.length ≤ 1048576) (hs : ∀ x ∈ l, x.size ≤ 1048576) : ∀ (d i : Nat), l.length - i = d → i ≤ l.length → Ev (fun k => spec_unItems.l0 k l l (l.length : Int) (i : Int)) ((l.drop i).all glOK && decide (l.length ≤ 20)) := by
  intro d
  induction d with
  | zero =>
    intro i hd hi
    refine ⟨1, fun k hk => ?_⟩
    obtain ⟨k, rfl⟩ : ∃ m, k = m + 1 := ⟨k - 1, by omega⟩
    simp only [spec_unItems.l0]
    rw [if_neg (by omega), List.drop_eq_nil_of_le (by omega)]
    simp only [List.all_nil, Bool.true_and, Option.some.injEq]
    exact decide_eq_decide.mpr (by omega)
  | succ d ih =>
    intro i hd hi
    have hlt : i < l.length := by omega
    refine Ev.step (f := fun k => (spec_enGloss.f k l[i]).bind fun t => if t = true then spec_unItems.l0 k l l (l.length : Int) ((i + 1 : Nat) : Int) else some false) (fun k => ?_) ?_
    · simp only [spec_unItems.l0]
      rw [if_pos (by omega), if_pos (by omega), if_pos (by omega), w64_succ (by omega), rdO l i hlt]
    · refine Ev.bind (spec_enGloss_ev l[i] (by have := hs l[i] (List.getElem_mem hlt); omega)) ?_
      rw [List.drop_eq_getElem_cons hlt, List.all_cons]
      cases h : glOK l[i]
      · exact Ev.congr (f := fun _ => some false) (fun k => by simp) (Ev.now _)
      · exact Ev.congr (fun k => if_pos rfl) (by simpa using ih (i + 1) (by omega) (by omega))
theorem spec_unItems_ev (l : List ByteArray) (hl : l.length ≤ 1048576) (hs : ∀ x ∈ l, x.size ≤ 1048576) : Ev (fun k => spec_unItems.f k l) (itOK l) := by
  unfold spec_unItems.f itOK
  exact spec_items_from l hl hs _ 0 rfl (Nat.zero_le _)
theorem allGl_ev : ∀ (l : List ByteArray), (∀ x ∈ l, x.size ≤ 1048576) → Ev (fun k => allGl k l) (l.all glOK)
  | [], _ => Ev.now _
  | x :: xs, hs => by
    simp only [allGl, List.all_cons]
    refine Ev.bind (impl_IsGloss_ev x (by have := hs x (List.mem_cons_self ..); omega)) ?_
    cases h : glOK x
    · exact Ev.congr (f := fun _ => some false) (fun k => by simp) (Ev.now _)
    · exact Ev.congr (fun k => if_pos rfl) (by simpa using allGl_ev xs (fun y hy => hs y (List.mem_cons_of_mem _ hy)))
theorem impl_areItems_ev (l : List ByteArray) (hs : ∀ x ∈ l, x.size ≤ 1048576) : Ev (fun k => impl_areItems.f k l) (itOK l) := by
  unfold impl_areItems.f itOK
  by_cases h : l.length ≤ 20
  · rw [decide_eq_true h, Bool.and_true]
    exact Ev.congr (fun k => if_pos (by omega)) (allGl_ev l hs)
  · rw [decide_eq_false h, Bool.and_false]
    exact Ev.congr (f := fun _ => some false) (fun k => if_neg (by omega)) (Ev.now _)
end Go.Proofs.Ytmmpnigbfiebbaa.PA
