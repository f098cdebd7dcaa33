/- The plain law of valid desks: the items after edits, all edits in their order, and what is a desk are the same for the program and the reference. -/
import Derived.Test.YtmmpnigbfiebbaaPAx5
import Derived.Test.YtmmpnigbfiebbaaPAx6
import Derived.Test.YtmmpnigbfiebbaaQItemsOk
import Derived.Test.YtmmpnigbfiebbaaQDeskS
namespace Go.Proofs.Ytmmpnigbfiebbaa.PA
open Go.RowKit Go.Proofs.YtmmpnigbfiebbaaW.PrintWords Go.Proofs.YtmmpnigbfiebbaaW.PrintLast Go.Proofs.YtmmpnigbfiebbaaW.PrintMore
set_option linter.unusedVariables false
set_option linter.unusedSimpArgs false
/-- The items after one edit, if it can be made. -/
def umV (l : List ByteArray) (e : S25) : Option (List ByteArray) :=
  if deV e.f0 e.f1 e.f2 e.f3 = true then
    if e.f0 = 0 then (if e.f1 > (l.length : Int) then none else if (l.length : Int) = 20 then none else some (l.take e.f1.toNat ++ e.f2 :: l.drop e.f1.toNat))
    else if e.f1 ≥ (l.length : Int) then none else if ((rdOf ByteArray.empty l e.f1).toList != e.f3.toList) = true then none
    else if e.f0 = 2 then some (l.take e.f1.toNat ++ e.f2 :: l.drop (e.f1.toNat + 1)) else some (l.take e.f1.toNat ++ l.drop (e.f1.toNat + 1))
  else none
def umR : Option (List ByteArray) → List ByteArray × Bool
  | none => ([], false)
  | some l => (l, true)
/-- The items after edits, if all can be made. -/
def uaV : List ByteArray → List S25 → Option (List ByteArray)
  | l, [] => some l
  | l, e :: es => (umV l e).bind fun l' => uaV l' es
theorem deV_in {a0 a1 : Int} {a2 a3 : ByteArray} (h : deV a0 a1 a2 a3 = true) : 0 ≤ a1 ∧ a1 ≤ 20 := by
  unfold deV at h
  by_cases e : 0 ≤ a1 ∧ a1 ≤ 20
  · exact e
  · rw [if_neg (by simpa using e)] at h; cases h
theorem glOK_ne {s : ByteArray} (h : glOK s = true) : s.toList ≠ [] := by
  intro e
  unfold glOK at h
  have h2 : 1 ≤ (s.size : Int) := (of_decide_eq_true (Bool.and_eq_true_iff.mp h).2).1
  have h3 : s.size = s.toList.length := by rw [← bs_list, Array.length_toList]; rfl
  rw [h3, e] at h2
  simp only [List.length_nil] at h2
  omega
theorem deV_old {a0 a1 : Int} {a2 a3 : ByteArray} (h : deV a0 a1 a2 a3 = true) (h0 : ¬ a0 = 0) : a3.toList ≠ [] := by
  unfold deV at h
  rw [if_pos (by simpa using deV_in h)] at h
  rw [if_neg h0] at h
  by_cases h1 : a0 = 1
  · rw [if_pos h1] at h
    split at h
    · exact glOK_ne h
    · cases h
  · rw [if_neg h1] at h
    split at h
    · split at h
      · split at h
        · rename_i h3; exact glOK_ne h3
        · cases h
      · cases h
    · cases h
theorem umV_len {l l' : List ByteArray} {e : S25} (h : umV l e = some l') (hl : l.length ≤ 20) : l'.length ≤ 20 := by
  unfold umV at h
  split at h
  · split at h
    · split at h
      · cases h
      · split at h
        · cases h
        · obtain rfl := Option.some.inj h
          simp; omega
    · split at h
      · cases h
      · split at h
        · cases h
        · split at h
          · obtain rfl := Option.some.inj h
            simp; omega
          · obtain rfl := Option.some.inj h
            simp; omega
  · cases h
theorem spec_unMake_ev (l : List ByteArray) (hl : l.length ≤ 20) (e : S25) (h2 : e.f2.size ≤ 1048576) (h3 : e.f3.size ≤ 1048576) : Ev (fun k => spec_unMake.f k l e.f0 e.f1 e.f2 e.f3) (umR (umV l e)) := by
  unfold spec_unMake.f umV
  refine Ev.bind (spec_unEdit_ev e.f0 e.f1 e.f2 e.f3 (by omega) (by omega)) ?_
  by_cases hd : deV e.f0 e.f1 e.f2 e.f3 = true
  · obtain ⟨hi0, hi1⟩ := deV_in hd
    simp only [if_pos hd]
    by_cases h0 : e.f0 = 0
    · simp only [if_pos h0]
      by_cases c1 : e.f1 > (l.length : Int)
      · simp only [if_pos c1]; exact Ev.now _
      · simp only [if_neg c1]
        by_cases c2 : (l.length : Int) = 20
        · simp only [if_pos c2]; exact Ev.now _
        · simp only [if_neg c2, Option.bind_some]
          refine Ev.congr (f := fun _ => some (l.take e.f1.toNat ++ e.f2 :: l.drop e.f1.toNat, true)) (fun k => ?_) (Ev.now _)
          rw [if_pos hi0, if_pos (by omega), if_pos (by simp; omega), if_pos (by simp; omega), if_pos (by simp; omega)]
          simp
    · simp only [if_neg h0]
      by_cases c1 : e.f1 ≥ (l.length : Int)
      · simp only [if_pos c1]
        refine Ev.shift ?_
        simp only [spec_unMake.j0, if_true]
        exact Ev.now _
      · simp only [if_neg c1]
        refine Ev.congr (fun k => by rw [if_pos hi0, if_pos (by omega)]) ?_
        refine Ev.shift ?_
        simp only [spec_unMake.j0]
        by_cases c2 : ((rdOf ByteArray.empty l e.f1).toList != e.f3.toList) = true
        · simp only [if_pos c2]; exact Ev.now _
        · simp only [if_neg c2, Option.bind_some]
          have hw : wrap64 (e.f1 + 1) = e.f1 + 1 := w64_i (by omega) (by omega)
          have hn : (e.f1 + 1).toNat = e.f1.toNat + 1 := by omega
          refine Ev.congr (f := fun _ => some (umR (if e.f0 = 2 then some (l.take e.f1.toNat ++ e.f2 :: l.drop (e.f1.toNat + 1)) else some (l.take e.f1.toNat ++ l.drop (e.f1.toNat + 1))))) (fun k => ?_) (Ev.now _)
          rw [if_pos hi0, if_pos (by omega), if_pos (by simp; omega), hw, hn]
          by_cases c3 : e.f0 = 2
          · rw [if_pos c3, if_pos c3, if_pos (by simp; omega), if_pos (by omega), if_pos (by omega), if_pos (by simp; omega)]
            simp [umR]
          · rw [if_neg c3, if_neg c3, if_pos (by omega), if_pos (by omega), if_pos (by simp; omega)]
            simp [umR]
  · simp only [if_neg hd]; exact Ev.now _
theorem spec_after_from (es : List S25) (hes : es.length ≤ 1048576) (hE : ∀ e ∈ es, e.f2.size ≤ 1048576 ∧ e.f3.size ≤ 1048576) : ∀ (d i : Nat) (l : List ByteArray), es.length - i = d → i ≤ es.length → l.length ≤ 20 → Ev (fun k => spec_unAfter.l0 k l es (es.length : Int) (i : Int)) (umR (uaV l (es.drop i))) := by
  intro d
  induction d with
  | zero =>
    intro i l hd hi hl
    refine ⟨1, fun k hk => ?_⟩
    obtain ⟨k, rfl⟩ : ∃ m, k = m + 1 := ⟨k - 1, by omega⟩
    simp only [spec_unAfter.l0]
    rw [if_neg (by omega), List.drop_eq_nil_of_le (by omega)]
    rfl
  | succ d ih =>
    intro i l hd hi hl
    have hlt : i < es.length := by omega
    obtain ⟨s2, s3⟩ := hE es[i] (List.getElem_mem hlt)
    refine Ev.step (f := fun k => (spec_unMake.f k l es[i].f0 es[i].f1 es[i].f2 es[i].f3).bind fun b => if b.2 = true then spec_unAfter.l0 k b.1 es (es.length : Int) ((i + 1 : Nat) : Int) else some ([], false)) (fun k => ?_) ?_
    · simp only [spec_unAfter.l0]
      rw [if_pos (by omega), if_pos (by omega), if_pos (by omega), w64_succ (by omega), rdE es i hlt]
    · refine Ev.bind (spec_unMake_ev l hl es[i] s2 s3) ?_
      rw [List.drop_eq_getElem_cons hlt]
      simp only [uaV]
      cases h : umV l es[i] with
      | none => exact Ev.congr (f := fun _ => some ([], false)) (fun k => by simp [umR]) (Ev.now _)
      | some l' => exact Ev.congr (fun k => by simp only [umR, if_true]) (ih (i + 1) l' (by omega) (by omega) (umV_len h hl))
theorem spec_unAfter_ev (l : List ByteArray) (hl : l.length ≤ 20) (es : List S25) (hes : es.length ≤ 1048576) (hE : ∀ e ∈ es, e.f2.size ≤ 1048576 ∧ e.f3.size ≤ 1048576) : Ev (fun k => spec_unAfter.f k l es) (umR (uaV l es)) := by
  unfold spec_unAfter.f
  have h := spec_after_from es hes hE _ 0 l rfl (Nat.zero_le _) hl
  exact Ev.congr (fun k => by rw [Option.bind_some, if_pos (by simp; omega)]; rfl) h
theorem item_val (l : List ByteArray) (hl : l.length ≤ 1048576) (i : Int) (h0 : 0 ≤ i) (h1 : i ≤ 20) : impl_itemAt.f l i = some (if i ≥ (l.length : Int) then ⟨#[]⟩ else rdOf ByteArray.empty l i) := by
  unfold impl_itemAt.f
  rw [w64_i (by omega) (by omega), within_val, Option.bind_some]
  by_cases c : i ≥ (l.length : Int)
  · rw [if_pos c, if_neg (by simp; omega)]
  · rw [if_neg c, if_pos (by simp; omega), if_pos h0, if_pos (by omega)]
theorem madeL_ev : ∀ (es : List S25) (l : List ByteArray), l.length ≤ 20 → (∀ e ∈ es, e.f2.size ≤ 1048576 ∧ e.f3.size ≤ 1048576) → Ev (fun k => madeL k l es) (umR (uaV l es))
  | [], l, _, _ => Ev.now _
  | e :: es, l, hl, hE => by
    obtain ⟨s2, s3⟩ := hE e (List.mem_cons_self ..)
    have hE' := fun x hx => hE x (List.mem_cons_of_mem _ hx)
    simp only [madeL, uaV]
    refine Ev.bind (impl_isDeskEdit_ev e.f0 e.f1 e.f2 e.f3 (by omega) (by omega)) ?_
    by_cases hd : deV e.f0 e.f1 e.f2 e.f3 = true
    · obtain ⟨hi0, hi1⟩ := deV_in hd
      have hcl : 0 ≤ e.f1 ∧ l.length ≤ 1000000 := ⟨hi0, by omega⟩
      simp only [if_pos hd, if_pos hcl]
      by_cases h0 : e.f0 = 0
      · simp only [if_pos h0]
        by_cases c1 : e.f1 > (l.length : Int)
        · rw [show umV l e = none by unfold umV; rw [if_pos hd, if_pos h0, if_pos c1]]
          simp only [if_pos c1]; exact Ev.now _
        · simp only [if_neg c1]
          by_cases c2 : (l.length : Int) = 20
          · rw [show umV l e = none by unfold umV; rw [if_pos hd, if_pos h0, if_neg c1, if_pos c2]]
            simp only [if_pos c2]; exact Ev.now _
          · have hu : umV l e = some (l.take e.f1.toNat ++ e.f2 :: l.drop e.f1.toNat) := by unfold umV; rw [if_pos hd, if_pos h0, if_neg c1, if_neg c2]
            rw [hu]
            simp only [if_neg c2, Option.bind_some]
            exact madeL_ev es _ (umV_len hu hl) hE'
      · simp only [if_neg h0, item_val l (by omega) e.f1 hi0 hi1, Option.bind_some]
        by_cases c1 : e.f1 ≥ (l.length : Int)
        · rw [show umV l e = none by unfold umV; rw [if_pos hd, if_neg h0, if_pos c1]]
          have hne : ((⟨#[]⟩ : ByteArray).toList != e.f3.toList) = true := by
            have h1 := deV_old hd h0
            have h2 : (⟨#[]⟩ : ByteArray).toList = [] := (bs_list _).symm
            rw [h2]
            exact bne_iff_ne.mpr (fun h => h1 h.symm)
          simp only [if_pos c1, if_pos hne]
          exact Ev.now _
        · simp only [if_neg c1]
          by_cases c2 : ((rdOf ByteArray.empty l e.f1).toList != e.f3.toList) = true
          · rw [show umV l e = none by unfold umV; rw [if_pos hd, if_neg h0, if_neg c1, if_pos c2]]
            simp only [if_pos c2]; exact Ev.now _
          · have hlt : e.f1 < (l.length : Int) := by omega
            simp only [if_neg c2, if_pos hlt]
            by_cases c3 : e.f0 = 1
            · have hu : umV l e = some (l.take e.f1.toNat ++ l.drop (e.f1.toNat + 1)) := by unfold umV; rw [if_pos hd, if_neg h0, if_neg c1, if_neg c2, if_neg (by omega)]
              rw [hu]
              simp only [if_pos c3, Option.bind_some, List.eraseIdx_eq_take_drop_succ]
              exact madeL_ev es _ (umV_len hu hl) hE'
            · have c4 : e.f0 = 2 := by rcases deV_kind hd with h | h | h; exact absurd h h0; exact absurd h c3; exact h
              have hu : umV l e = some (l.take e.f1.toNat ++ e.f2 :: l.drop (e.f1.toNat + 1)) := by unfold umV; rw [if_pos hd, if_neg h0, if_neg c1, if_neg c2, if_pos c4]
              have hs : l.set e.f1.toNat e.f2 = l.take e.f1.toNat ++ e.f2 :: l.drop (e.f1.toNat + 1) := by
                rw [List.set_eq_take_append_cons_drop, if_pos (by omega)]
              rw [hu]
              simp only [if_neg c3, Option.bind_some, hs]
              exact madeL_ev es _ (umV_len hu hl) hE'
    · rw [show umV l e = none by unfold umV; rw [if_neg hd]]
      simp only [if_neg hd]; exact Ev.now _
theorem impl_made_ev (l : List ByteArray) (hl : l.length ≤ 20) (es : List S25) (hes : es.length ≤ 1000000) (hE : ∀ e ∈ es, e.f2.size ≤ 1048576 ∧ e.f3.size ≤ 1048576) : Ev (fun k => impl_made.f k l es) (umR (uaV l es)) := by
  unfold impl_made.f
  exact Ev.congr (fun k => by rw [if_pos hes, slices_Clone_string_string.f, if_pos (by omega), Option.bind_some]) (madeL_ev es l hl hE)

/-! ### All edits -/
theorem spec_all_from (a : List ByteArray) (b c : List S25) (hc : c.length ≤ 1048576) : ∀ (i : Nat) (acc : List S25), i ≤ c.length → acc.length + i ≤ 10000000 → Ev (fun k => spec_unAll.l0 k acc ((i : Int) - 1) a b c) (acc ++ (c.take i).reverse) := by
  intro i
  induction i with
  | zero =>
    intro acc hi ha
    refine ⟨1, fun k hk => ?_⟩
    obtain ⟨k, rfl⟩ : ∃ m, k = m + 1 := ⟨k - 1, by omega⟩
    simp only [spec_unAll.l0]
    rw [if_neg (by omega)]
    simp
  | succ i ih =>
    intro acc hi ha
    have hlt : i < c.length := by omega
    refine Ev.step (f := fun k => spec_unAll.l0 k (acc ++ [c[i]]) ((i : Int) - 1) a b c) (fun k => ?_) ?_
    · simp only [spec_unAll.l0]
      rw [show ((i + 1 : Nat) : Int) - 1 = (i : Int) by omega, if_pos (by omega), if_pos (by omega), if_pos (by omega), if_pos (by omega), rdE c i hlt, w64_i (by omega) (by omega)]
    · have h := ih (acc ++ [c[i]]) (by omega) (by simp; omega)
      rw [show acc ++ (c.take (i + 1)).reverse = acc ++ [c[i]] ++ (c.take i).reverse by rw [List.take_succ_eq_append_getElem hlt, List.reverse_append]; simp]
      exact h
theorem spec_unAll_ev (a : List ByteArray) (b c : List S25) (hb : b.length ≤ 1048576) (hc : c.length ≤ 1048576) : Ev (fun k => spec_unAll.f k a b c) (b ++ c.reverse) := by
  unfold spec_unAll.f
  have h := spec_all_from a b c hc c.length b (Nat.le_refl _) (by omega)
  rw [List.take_length] at h
  exact Ev.congr (fun k => by rw [Option.bind_some, if_pos (by simp; omega), w64_i (by omega) (by omega)]; rfl) h
theorem rev_from (l : List S25) (hl : l.length ≤ 1048576) : ∀ (d i : Nat) (x : List S25), l.length - i = d → i ≤ l.length → x.length = l.length → (∀ j, j < l.length → x[j]? = if j < i ∨ l.length < j + 1 + i then l[l.length - 1 - j]? else l[j]?) →
    Ev (fun k => impl_DeskEdit_82.l0 k x (i : Int) ((l.length : Int) - 1 - (i : Int))) l.reverse := by
  intro d
  induction d with
  | zero =>
    intro i x hd hi hx h
    refine ⟨1, fun k hk => ?_⟩
    obtain ⟨k, rfl⟩ : ∃ m, k = m + 1 := ⟨k - 1, by omega⟩
    simp only [impl_DeskEdit_82.l0]
    rw [if_neg (by omega)]
    congr 1
    apply List.ext_getElem?
    intro j
    by_cases hj : j < l.length
    · rw [h j hj, if_pos (by omega), List.getElem?_reverse hj]
    · rw [List.getElem?_eq_none (by omega), List.getElem?_eq_none (by simp; omega)]
  | succ d ih =>
    intro i x hd hi hx h
    by_cases hc : (i : Int) < (l.length : Int) - 1 - (i : Int)
    · have hj : (l.length : Int) - 1 - (i : Int) = ((l.length - 1 - i : Nat) : Int) := by omega
      have hir : i < x.length := by omega
      have hjr : l.length - 1 - i < x.length := by omega
      refine Ev.step (f := fun k => impl_DeskEdit_82.l0 k ((x.set i x[l.length - 1 - i]).set (l.length - 1 - i) x[i]) ((i + 1 : Nat) : Int) ((l.length : Int) - 1 - ((i + 1 : Nat) : Int))) (fun k => ?_) ?_
      · simp only [impl_DeskEdit_82.l0]
        rw [if_pos hc, hj, if_pos (by omega), if_pos (by omega), if_pos (by omega), if_pos (by omega), rdE x i hir, rdE x _ hjr, w64_succ (by omega), w64_i (by omega) (by omega), Int.toNat_natCast, Int.toNat_natCast, show ((l.length - 1 - i : Nat) : Int) - 1 = (l.length : Int) - 1 - ((i + 1 : Nat) : Int) by omega]
      · refine ih (i + 1) _ (by omega) (by omega) (by simp [hx]) (fun j hj' => ?_)
        have hi' := h i (by omega)
        have hj2 := h (l.length - 1 - i) (by omega)
        rw [if_neg (by omega), List.getElem?_eq_getElem hir] at hi'
        rw [if_neg (by omega), List.getElem?_eq_getElem hjr] at hj2
        by_cases e1 : j = l.length - 1 - i
        · subst e1
          rw [List.getElem?_set_self (by simp; omega), if_pos (by omega), hi', show l.length - 1 - (l.length - 1 - i) = i by omega]
        · rw [List.getElem?_set_ne (by omega)]
          by_cases e2 : j = i
          · subst e2
            rw [List.getElem?_set_self (by omega), if_pos (by omega), hj2]
          · rw [List.getElem?_set_ne (by omega), h j hj']
            by_cases e3 : j < i ∨ l.length < j + 1 + i
            · rw [if_pos e3, if_pos (by omega)]
            · rw [if_neg e3, if_neg (by omega)]
    · refine ⟨1, fun k hk => ?_⟩
      obtain ⟨k, rfl⟩ : ∃ m, k = m + 1 := ⟨k - 1, by omega⟩
      simp only [impl_DeskEdit_82.l0]
      rw [if_neg hc]
      congr 1
      apply List.ext_getElem?
      intro j
      by_cases hj : j < l.length
      · rw [h j hj, List.getElem?_reverse hj]
        by_cases e3 : j < i ∨ l.length < j + 1 + i
        · rw [if_pos e3]
        · rw [if_neg e3, show l.length - 1 - j = j by omega]
      · rw [List.getElem?_eq_none (by omega), List.getElem?_eq_none (by simp; omega)]
theorem rev_ev (l : List S25) (hl : l.length ≤ 1048576) : Ev (fun k => impl_DeskEdit_82.f k l) l.reverse := by
  unfold impl_DeskEdit_82.f
  have h := rev_from l hl _ 0 l rfl (Nat.zero_le _) rfl (fun j hj => by rw [if_neg (by omega)])
  rw [show (l.length : Int) - 1 - ((0 : Nat) : Int) = (l.length : Int) - 1 by omega] at h
  exact Ev.congr (fun k => by rw [w64_i (by omega) (by omega)]; rfl) h
theorem impl_all_ev (a : List ByteArray) (b c : List S25) (hb : b.length ≤ 1048576) (hc : c.length ≤ 1048576) : Ev (fun k => impl_Desk_all.f k a b c) (b ++ c.reverse) := by
  unfold impl_Desk_all.f
  refine Ev.congr (fun k => by rw [impl_DeskEdit_69.f, if_pos (by omega), Option.bind_some]) (Ev.bind (rev_ev c hc) ?_)
  exact Ev.congr (f := fun _ => some (b ++ c.reverse)) (fun k => if_pos (by simp; omega)) (Ev.now _)

/-! ### A valid desk -/
def gdV (a : List ByteArray) (b c : List S25) : Bool := if itOK a = true then (if (b.length : Int) + (c.length : Int) > 30 then false else (umR (uaV a (b ++ c.reverse))).2) else false
/-- Lists of a desk that are not too large. -/
def DOk (a : List ByteArray) (b c : List S25) : Prop :=
  (a.length ≤ 1048576 ∧ ∀ x ∈ a, x.size ≤ 1048576) ∧ (b.length ≤ 1048576 ∧ ∀ e ∈ b, e.f2.size ≤ 1048576 ∧ e.f3.size ≤ 1048576) ∧ (c.length ≤ 1048576 ∧ ∀ e ∈ c, e.f2.size ≤ 1048576 ∧ e.f3.size ≤ 1048576)
theorem dok_of {a : List ByteArray} {b c : List S23} (h : DeskOk a b c) : DOk a (b.map tdE) (c.map tdE) := by
  obtain ⟨h1, ⟨h2, h3⟩, h4, h5⟩ := h
  refine ⟨h1, ⟨by simpa using h2, fun e he => ?_⟩, by simpa using h4, fun e he => ?_⟩
  · obtain ⟨x, hx, rfl⟩ := List.mem_map.mp he; exact h3 x hx
  · obtain ⟨x, hx, rfl⟩ := List.mem_map.mp he; exact h5 x hx
theorem itOK_len {a : List ByteArray} (h : itOK a = true) : a.length ≤ 20 := of_decide_eq_true (Bool.and_eq_true_iff.mp h).2
theorem dok_all {a : List ByteArray} {b c : List S25} (h : DOk a b c) : ∀ e ∈ b ++ c.reverse, e.f2.size ≤ 1048576 ∧ e.f3.size ≤ 1048576 := by
  intro e he
  rcases List.mem_append.mp he with h1 | h1
  · exact h.2.1.2 e h1
  · exact h.2.2.2 e (by simpa using h1)
theorem spec_unGood_ev {a : List ByteArray} {b c : List S25} (h : DOk a b c) : Ev (fun k => spec_unGood.f k a b c) (gdV a b c) := by
  obtain ⟨⟨ha, hs⟩, ⟨hb, _⟩, hc, _⟩ := id h
  unfold spec_unGood.f gdV
  refine Ev.bind (spec_unItems_ev a ha hs) ?_
  by_cases hi : itOK a = true
  · simp only [if_pos hi]
    refine Ev.shift ?_
    simp only [spec_unGood.j0]
    rw [w64_i (by omega) (by omega)]
    by_cases c1 : (b.length : Int) + (c.length : Int) > 30
    · simp only [if_pos c1, decide_eq_true c1, if_true]; exact Ev.now _
    · simp only [if_neg c1, decide_eq_false c1, Bool.false_eq_true, if_false]
      exact Ev.bind (spec_unAll_ev a b c hb hc) (Ev.bind (spec_unAfter_ev a (itOK_len hi) _ (by simp; omega) (dok_all h)) (Ev.now _))
  · simp only [if_neg hi]
    refine Ev.shift ?_
    simp only [spec_unGood.j0, if_true]
    exact Ev.now _
theorem impl_IsDesk_ev {a : List ByteArray} {b c : List S25} (h : DOk a b c) : Ev (fun k => impl_IsDesk.f k a b c) (gdV a b c) := by
  obtain ⟨⟨ha, hs⟩, ⟨hb, _⟩, hc, _⟩ := id h
  unfold impl_IsDesk.f gdV
  refine Ev.bind (impl_areItems_ev a hs) ?_
  by_cases hi : itOK a = true
  · simp only [if_pos hi]
    refine Ev.shift ?_
    simp only [impl_IsDesk.j0]
    rw [w64_i (by omega) (by omega)]
    by_cases c1 : (b.length : Int) + (c.length : Int) > 30
    · simp only [if_pos c1, decide_eq_true c1, if_true]; exact Ev.now _
    · simp only [if_neg c1, decide_eq_false c1, Bool.false_eq_true, if_false]
      exact Ev.bind (impl_all_ev a b c hb hc) (Ev.bind (impl_made_ev a (itOK_len hi) _ (by simp; omega) (dok_all h)) (Ev.now _))
  · simp only [if_neg hi]
    refine Ev.shift ?_
    simp only [impl_IsDesk.j0, if_true]
    exact Ev.now _
end Go.Proofs.Ytmmpnigbfiebbaa.PA
