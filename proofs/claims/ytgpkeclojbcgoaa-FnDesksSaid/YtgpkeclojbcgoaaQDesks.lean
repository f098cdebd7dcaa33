/- The plain law of desks: what is valid, what edits make, and what all functions of desks return. -/
import Derived.Test.YtgpkeclojbcgoaaPAx1
import Derived.Test.YtgpkeclojbcgoaaPAx2
import Derived.Test.YtgpkeclojbcgoaaPAx3
import Derived.Test.YtgpkeclojbcgoaaPAx4
import Derived.Test.YtgpkeclojbcgoaaBase
namespace Go.Proofs.Ytgpkeclojbcgoaa.PA
open Go.RowKit Go.Proofs.YtgpkeclojbcgoaaW.PrintWords Go.Proofs.YtgpkeclojbcgoaaW.PrintLast Go.Proofs.YtgpkeclojbcgoaaW.PrintMore
set_option linter.unusedVariables false
set_option linter.unusedSimpArgs false
theorem w64_i {x : Int} (h0 : -9223372036854775808 ≤ x) (h1 : x ≤ 9223372036854775807) : wrap64 x = x := by
  unfold wrap64; omega
theorem w64_succ {i : Nat} (h : i < 9223372036854775807) : wrap64 ((i : Int) + 1) = ((i + 1 : Nat) : Int) := by
  rw [w64_i (by omega) (by omega)]; omega
theorem aL {α β : Type} {xs : List α} {ys : List β} {n : Nat} (h : xs.length + ys.length < n) : Refl.appLen xs ys < n := Refl.appLen_of h
theorem Ev.yes {α : Type} {c : Prop} [Decidable c] {A B : Nat → Option α} {r : α} (h : c) (h1 : Ev A r) : Ev (fun k => if c then A k else B k) r := Ev.congr (fun k => if_pos h) h1
theorem Ev.no {α : Type} {c : Prop} [Decidable c] {A B : Nat → Option α} {r : α} (h : ¬ c) (h1 : Ev B r) : Ev (fun k => if c then A k else B k) r := Ev.congr (fun k => if_neg h) h1
theorem Ev.shift {α : Type} {g : Nat → Option α} {r : α} (h : Ev (fun k => g (k + 1)) r) : Ev g r := Ev.step (fun _ => rfl) h
/-- The letters of glosses. -/
def glL : List UInt8 := [65, 66, 67, 68, 69, 70, 71, 72, 73, 74, 75, 76, 77, 78, 79, 80, 81, 82, 83, 84, 85, 86, 87, 88, 89, 90]
def glIs (x : Int) : Bool := decide (65 ≤ x ∧ x ≤ 90)
theorem gl_idx : ∀ x : Fin 256, decide (Lib.indexByte glL (x.val : Int).toNat.toUInt8 < 0) = !glIs (x.val : Int) := by
  decide +kernel
theorem gl_at (s : ByteArray) (i : Int) : (Lib.indexByte glL (bt s i).toNat.toUInt8 < 0) ↔ glIs (bt s i) = false := by
  have h := bt_range s i
  have := gl_idx ⟨(bt s i).toNat, by omega⟩
  simp only [] at this
  rw [show (((bt s i).toNat : Nat) : Int) = bt s i by omega] at this
  cases hg : glIs (bt s i)
  · rw [hg] at this; simpa using this
  · rw [hg] at this; simpa using this
/-- Are all letters from i on letters of glosses? -/
def glFrom (s : ByteArray) (i : Nat) : Bool := (List.range' i (s.size - i)).all fun j => glIs (bt s (j : Int))
theorem glFrom_end (s : ByteArray) (i : Nat) (h : s.size ≤ i) : glFrom s i = true := by
  unfold glFrom; rw [show s.size - i = 0 by omega]; rfl
theorem glFrom_step (s : ByteArray) (i : Nat) (h : i < s.size) : glFrom s i = (glIs (bt s (i : Int)) && glFrom s (i + 1)) := by
  unfold glFrom
  rw [show s.size - i = (s.size - (i + 1)) + 1 by omega, List.range'_succ, List.all_cons]
def glOK (s : ByteArray) : Bool := glFrom s 0 && decide (1 ≤ (s.size : Int) ∧ (s.size : Int) ≤ 8)
theorem in_val (a b c : Int) : spec_l1In.f a b c = some (decide (b ≤ a ∧ a ≤ c)) := by
  unfold spec_l1In.f
  by_cases h : b ≤ a
  · rw [if_pos h]; simp [h]
  · rw [if_neg h]; simp [h]
theorem within_val (a b c : Int) : impl_within.f a b c = some (decide (b ≤ a ∧ a ≤ c)) := by
  unfold impl_within.f
  by_cases h : b ≤ a
  · rw [if_pos h]; simp [h]
  · rw [if_neg h]; simp [h]
theorem spec_gl_from (s : ByteArray) (hs : s.size < 9223372036854775807) : ∀ (d i : Nat), s.size - i = d → i ≤ s.size → Ev (fun k => spec_enGloss.l0 k s (i : Int)) (glFrom s i && decide (1 ≤ (s.size : Int) ∧ (s.size : Int) ≤ 8)) := by
  intro d
  induction d with
  | zero =>
    intro i hd hi
    refine ⟨1, fun k hk => ?_⟩
    obtain ⟨k, rfl⟩ : ∃ m, k = m + 1 := ⟨k - 1, by omega⟩
    simp only [spec_enGloss.l0]
    rw [if_neg (by omega), glFrom_end s i (by omega), in_val]
    rfl
  | succ d ih =>
    intro i hd hi
    have hlt : i < s.size := by omega
    refine Ev.step (f := fun k => if bt s (i : Int) < 65 then some false else if bt s (i : Int) > 90 then some false else spec_enGloss.l0 k s ((i + 1 : Nat) : Int)) (fun k => ?_) ?_
    · simp only [spec_enGloss.l0, if_pos (show (i : Int) < (s.size : Int) by omega), if_pos (show 0 ≤ (i : Int) by omega), w64_succ (show i < 9223372036854775807 by omega)]
    · rw [glFrom_step s i hlt]
      by_cases h1 : bt s (i : Int) < 65
      · rw [show glIs (bt s (i : Int)) = false by unfold glIs; exact decide_eq_false (by omega)]
        exact Ev.congr (f := fun _ => some false) (fun k => by rw [if_pos h1]) (Ev.now _)
      · by_cases h2 : bt s (i : Int) > 90
        · rw [show glIs (bt s (i : Int)) = false by unfold glIs; exact decide_eq_false (by omega)]
          exact Ev.congr (f := fun _ => some false) (fun k => by rw [if_neg h1, if_pos h2]) (Ev.now _)
        · rw [show glIs (bt s (i : Int)) = true by unfold glIs; exact decide_eq_true (by omega), Bool.true_and]
          exact Ev.congr (fun k => by rw [if_neg h1, if_neg h2]) (ih (i + 1) (by omega) (by omega))
theorem impl_gl_from (s : ByteArray) (hs : s.size < 9223372036854775807) : ∀ (d i : Nat), s.size - i = d → i ≤ s.size → Ev (fun k => impl_hasOnly.l0 k s ⟨#[65, 66, 67, 68, 69, 70, 71, 72, 73, 74, 75, 76, 77, 78, 79, 80, 81, 82, 83, 84, 85, 86, 87, 88, 89, 90]⟩ (s.size : Int) (i : Int)) (glFrom s i) := by
  intro d
  induction d with
  | zero =>
    intro i hd hi
    refine ⟨1, fun k hk => ?_⟩
    obtain ⟨k, rfl⟩ : ∃ m, k = m + 1 := ⟨k - 1, by omega⟩
    simp only [impl_hasOnly.l0]
    rw [if_neg (by omega), glFrom_end s i (by omega)]
  | succ d ih =>
    intro i hd hi
    have hlt : i < s.size := by omega
    refine Ev.step (f := fun k => if Lib.indexByte glL (bt s (i : Int)).toNat.toUInt8 < 0 then some false else impl_hasOnly.l0 k s ⟨#[65, 66, 67, 68, 69, 70, 71, 72, 73, 74, 75, 76, 77, 78, 79, 80, 81, 82, 83, 84, 85, 86, 87, 88, 89, 90]⟩ (s.size : Int) ((i + 1 : Nat) : Int)) (fun k => ?_) ?_
    · simp only [impl_hasOnly.l0]
      rw [if_pos (by omega), if_pos (by omega), if_pos (by omega), w64_succ (by omega)]
      rfl
    · rw [glFrom_step s i hlt]
      cases h : glIs (bt s (i : Int))
      · rw [Bool.false_and]
        exact Ev.congr (f := fun _ => some false) (fun k => by rw [if_pos ((gl_at s _).mpr h)]) (Ev.now _)
      · rw [Bool.true_and]
        have hn : ¬ (Lib.indexByte glL (bt s (i : Int)).toNat.toUInt8 < 0) := fun h' => by
          have := (gl_at s _).mp h'
          rw [h] at this; cases this
        exact Ev.congr (fun k => by rw [if_neg hn]) (ih (i + 1) (by omega) (by omega))
theorem spec_enGloss_ev (s : ByteArray) (hs : s.size < 9223372036854775807) : Ev (fun k => spec_enGloss.f k s) (glOK s) := spec_gl_from s hs _ 0 rfl (Nat.zero_le _)
theorem impl_IsGloss_ev (s : ByteArray) (hs : s.size < 9223372036854775807) : Ev (fun k => impl_IsGloss.f k s) (glOK s) := by
  unfold impl_IsGloss.f impl_isWordOf.f glOK
  simp only [within_val, Option.bind_some]
  by_cases h : 1 ≤ (s.size : Int) ∧ (s.size : Int) ≤ 8
  · simp only [decide_eq_true h, if_true, Bool.and_true]
    exact Ev.bind (Ev.bind (impl_gl_from s hs _ 0 rfl (Nat.zero_le _)) (Ev.now _)) (Ev.now _)
  · simp only [decide_eq_false h, Bool.and_false]
    exact Ev.congr (f := fun _ => some false) (fun k => by simp) (Ev.now _)
/-- A valid edit. -/
def deV (a0 a1 : Int) (a2 a3 : ByteArray) : Bool :=
  if decide (0 ≤ a1 ∧ a1 ≤ 20) = true then (if a0 = 0 then (if glOK a2 = true then a3.toList == [] else false) else if a0 = 1 then (if a2.toList = [] then glOK a3 else false) else if a0 = 2 then (if glOK a2 = true then (if glOK a3 = true then a2.toList != a3.toList else false) else false) else false) else false
theorem de_ev {g : Nat → ByteArray → Option Bool} (a0 a1 : Int) (a2 a3 : ByteArray) (h2 : Ev (fun k => g k a2) (glOK a2)) (h3 : Ev (fun k => g k a3) (glOK a3)) :
    Ev (fun k => (some (decide (0 ≤ a1 ∧ a1 ≤ 20))).bind fun t104 => (if t104 = true then (if a0 = 0 then ((g k a2).bind fun t105 => (if t105 = true then (some (a3.toList == ([] : List UInt8))) else (some false))) else (if a0 = 1 then (if a2.toList = ([] : List UInt8) then ((g k a3).bind fun t106 => (some t106)) else (some false)) else (if a0 = 2 then ((g k a2).bind fun t107 => (if t107 = true then ((g k a3).bind fun t108 => (if t108 = true then (some (a2.toList != a3.toList)) else (some false))) else (some false))) else (some false)))) else (some false))) (deV a0 a1 a2 a3) := by
  unfold deV
  simp only [Option.bind_some]
  by_cases h : decide (0 ≤ a1 ∧ a1 ≤ 20) = true
  · simp only [if_pos h]
    by_cases e0 : a0 = 0
    · simp only [if_pos e0]
      refine Ev.bind h2 ?_
      cases glOK a2 <;> exact Ev.now _
    · simp only [if_neg e0]
      by_cases e1 : a0 = 1
      · simp only [if_pos e1]
        by_cases e : a2.toList = []
        · simp only [if_pos e]; exact Ev.bind h3 (Ev.now _)
        · simp only [if_neg e]; exact Ev.now _
      · simp only [if_neg e1]
        by_cases e2 : a0 = 2
        · simp only [if_pos e2]
          refine Ev.bind h2 ?_
          cases glOK a2
          · exact Ev.now _
          · refine Ev.bind h3 ?_
            cases glOK a3 <;> exact Ev.now _
        · simp only [if_neg e2]; exact Ev.now _
  · simp only [if_neg h]; exact Ev.now _
theorem spec_unEdit_ev (a0 a1 : Int) (a2 a3 : ByteArray) (h2 : a2.size < 9223372036854775807) (h3 : a3.size < 9223372036854775807) : Ev (fun k => spec_unEdit.f k a0 a1 a2 a3) (deV a0 a1 a2 a3) := by
  unfold spec_unEdit.f
  simp only [in_val]
  exact de_ev (g := fun k s => spec_enGloss.f k s) a0 a1 a2 a3 (spec_enGloss_ev a2 h2) (spec_enGloss_ev a3 h3)
theorem impl_isDeskEdit_ev (a0 a1 : Int) (a2 a3 : ByteArray) (h2 : a2.size < 9223372036854775807) (h3 : a3.size < 9223372036854775807) : Ev (fun k => impl_isDeskEdit.f k a0 a1 a2 a3) (deV a0 a1 a2 a3) := by
  unfold impl_isDeskEdit.f
  simp only [within_val]
  exact de_ev (g := fun k s => impl_IsGloss.f k s) a0 a1 a2 a3 (impl_IsGloss_ev a2 h2) (impl_IsGloss_ev a3 h3)
theorem deV_kind {a0 a1 : Int} {a2 a3 : ByteArray} (h : deV a0 a1 a2 a3 = true) : a0 = 0 ∨ a0 = 1 ∨ a0 = 2 := by
  unfold deV at h
  by_cases e0 : a0 = 0
  · exact .inl e0
  · by_cases e1 : a0 = 1
    · exact .inr (.inl e1)
    · by_cases e2 : a0 = 2
      · exact .inr (.inr e2)
      · simp [e0, e1, e2] at h
theorem rdO (l : List ByteArray) (i : Nat) (h : i < l.length) : rdOf ByteArray.empty l (i : Int) = l[i] := by
  unfold rdOf; rw [List.getD_eq_getElem?_getD]; simp [h]
theorem rdE (l : List S38) (i : Nat) (h : i < l.length) : rd_T38 l (i : Int) = l[i] := by
  unfold rd_T38; rw [List.getD_eq_getElem?_getD]; simp [h]
theorem set_keeps {α : Type} {acc l : List α} {i : Nat} (x : α) (hx : l[i]? = some x) (hi : i < acc.length) (h : ∀ j, j < i → acc[j]? = l[j]?) : ∀ j, j < i + 1 → (acc.set i x)[j]? = l[j]? := by
  intro j hj
  by_cases e : j = i
  · subst e; rw [List.getElem?_set_self hi, hx]
  · rw [List.getElem?_set_ne (by omega)]; exact h j (by omega)
theorem all_keeps {α : Type} {acc l : List α} (hl : acc.length = l.length) (h : ∀ j, j < l.length → acc[j]? = l[j]?) : acc = l := by
  apply List.ext_getElem?
  intro j
  by_cases hj : j < l.length
  · exact h j hj
  · rw [List.getElem?_eq_none (by omega), List.getElem?_eq_none (by omega)]
def ieKind (x : Int) : Int := if x = 0 then 1 else if x = 1 then 0 else 2
def ivV (a0 a1 : Int) (a2 a3 : ByteArray) : Int × Int × ByteArray × ByteArray × Bool := if deV a0 a1 a2 a3 = true then (ieKind a0, a1, a3, a2, true) else (0, 0, ⟨#[]⟩, ⟨#[]⟩, false)
theorem spec_InverseEdit_ev (a0 a1 : Int) (a2 a3 : ByteArray) (h2 : a2.size < 9223372036854775807) (h3 : a3.size < 9223372036854775807) : Ev (fun k => spec_InverseEdit.f k a0 a1 a2 a3) (ivV a0 a1 a2 a3) := by
  unfold spec_InverseEdit.f ivV
  refine Ev.bind (spec_unEdit_ev a0 a1 a2 a3 h2 h3) ?_
  by_cases h : deV a0 a1 a2 a3 = true
  · simp only [if_pos h]
    rcases deV_kind h with rfl | rfl | rfl
    · exact Ev.now _
    · exact Ev.now _
    · exact Ev.now _
  · simp only [if_neg h]; exact Ev.now _
theorem impl_InverseEdit_ev (a0 a1 : Int) (a2 a3 : ByteArray) (h2 : a2.size < 9223372036854775807) (h3 : a3.size < 9223372036854775807) : Ev (fun k => impl_InverseEdit.f k a0 a1 a2 a3) (ivV a0 a1 a2 a3) := by
  unfold impl_InverseEdit.f ivV
  refine Ev.bind (impl_isDeskEdit_ev a0 a1 a2 a3 h2 h3) ?_
  by_cases h : deV a0 a1 a2 a3 = true
  · simp only [if_pos h]
    rcases deV_kind h with rfl | rfl | rfl
    · exact Ev.yes (by decide) (Ev.yes (by decide) (Ev.now _))
    · exact Ev.yes (by decide) (Ev.yes (by decide) (Ev.now _))
    · exact Ev.yes (by decide) (Ev.yes (by decide) (Ev.now _))
  · simp only [if_neg h]; exact Ev.now _
theorem de_in {a0 a1 : Int} {a2 a3 : ByteArray} (h : deV a0 a1 a2 a3 = true) : 0 ≤ a1 ∧ a1 ≤ 20 := by
  unfold deV at h
  by_cases e : 0 ≤ a1 ∧ a1 ≤ 20
  · exact e
  · rw [if_neg (by simpa using e)] at h; cases h
def itOK (l : List ByteArray) : Bool := l.all glOK && decide (l.length ≤ 20)
theorem spec_items_from (l : List ByteArray) (hl : l.length ≤ 1048576) (hs : ∀ x ∈ l, x.size ≤ 1048576) : ∀ (d i : Nat), l.length - i = d → i ≤ l.length → Ev (fun k => spec_unItems.l0 k l l (l.length : Int) (i : Int)) ((l.drop i).all glOK && decide (l.length ≤ 20)) := by
  intro d
  induction d with
  | zero =>
    intro i hd hi
    refine ⟨1, fun k hk => ?_⟩
    obtain ⟨k, rfl⟩ : ∃ m, k = m + 1 := ⟨k - 1, by omega⟩
    simp only [spec_unItems.l0]
    rw [if_neg (by omega), List.drop_eq_nil_of_le (by omega)]
    simp only [List.all_nil, Bool.true_and, Option.some.injEq]
    exact decide_eq_decide.mpr (by omega)
  | succ d ih =>
    intro i hd hi
    have hlt : i < l.length := by omega
    refine Ev.step (f := fun k => (spec_enGloss.f k l[i]).bind fun t => if t = true then spec_unItems.l0 k l l (l.length : Int) ((i + 1 : Nat) : Int) else some false) (fun k => ?_) ?_
    · simp only [spec_unItems.l0]
      rw [if_pos (by omega), if_pos (by omega), if_pos (by omega), w64_succ (by omega), rdO l i hlt]
    · refine Ev.bind (spec_enGloss_ev l[i] (by have := hs l[i] (List.getElem_mem hlt); omega)) ?_
      rw [List.drop_eq_getElem_cons hlt, List.all_cons]
      cases h : glOK l[i]
      · exact Ev.congr (f := fun _ => some false) (fun k => by simp) (Ev.now _)
      · exact Ev.congr (fun k => if_pos rfl) (by simpa using ih (i + 1) (by omega) (by omega))
theorem spec_unItems_ev (l : List ByteArray) (hl : l.length ≤ 1048576) (hs : ∀ x ∈ l, x.size ≤ 1048576) : Ev (fun k => spec_unItems.f k l) (itOK l) := by
  unfold spec_unItems.f itOK
  exact spec_items_from l hl hs _ 0 rfl (Nat.zero_le _)
theorem ai1_ev (x : ByteArray) (hx : x.size ≤ 1048576) : Ev (fun k => ai1.f k x) (!glOK x) := by
  unfold ai1.f
  exact Ev.bind (impl_IsGloss_ev x (by omega)) (Ev.now _)
theorem ai2_from (l : List ByteArray) (hl : l.length ≤ 1048576) (hs : ∀ x ∈ l, x.size ≤ 1048576) : ∀ (d i : Nat), l.length - i = d → i ≤ l.length → ∃ r : Int, Ev (fun k => ai2.l0 k l (l.length : Int) (i : Int)) r ∧ decide (r ≥ 0) = !(l.drop i).all glOK := by
  intro d
  induction d with
  | zero =>
    intro i hd hi
    refine ⟨-1, Ev.shift ?_, ?_⟩
    · simp only [ai2.l0]
      exact Ev.no (by omega) (Ev.now _)
    · rw [List.drop_eq_nil_of_le (by omega)]; rfl
  | succ d ih =>
    intro i hd hi
    have hlt : i < l.length := by omega
    obtain ⟨r, hr, hq⟩ := ih (i + 1) (by omega) (by omega)
    have h1 := ai1_ev l[i] (hs _ (List.getElem_mem hlt))
    rw [List.drop_eq_getElem_cons hlt, List.all_cons]
    cases h : glOK l[i]
    · rw [h] at h1
      refine ⟨(i : Int), Ev.shift ?_, by simp⟩
      simp only [ai2.l0]
      refine Ev.yes (by omega) (Ev.yes (by omega) (Ev.yes (by omega) ?_))
      rw [rdO l i hlt]
      exact Ev.bind h1 (Ev.yes rfl (Ev.now _))
    · rw [h] at h1
      refine ⟨r, Ev.shift ?_, by simpa using hq⟩
      simp only [ai2.l0]
      refine Ev.yes (by omega) (Ev.yes (by omega) (Ev.yes (by omega) ?_))
      rw [rdO l i hlt, w64_succ (by omega)]
      exact Ev.bind h1 (Ev.no (by decide) hr)
theorem impl_areItems_ev (l : List ByteArray) (hl : l.length ≤ 1048576) (hs : ∀ x ∈ l, x.size ≤ 1048576) : Ev (fun k => impl_areItems.f k l) (itOK l) := by
  unfold impl_areItems.f itOK
  by_cases h : l.length ≤ 20
  · rw [decide_eq_true h, Bool.and_true]
    refine Ev.yes (by omega) ?_
    obtain ⟨r, hr, hq⟩ := ai2_from l hl hs _ 0 rfl (Nat.zero_le _)
    rw [List.drop_zero] at hq
    have h2 : Ev (fun k => ai4.f k l) (!decide (r ≥ 0)) := Ev.bind (Ev.bind hr (Ev.now _)) (Ev.now _)
    rw [hq, Bool.not_not] at h2
    exact Ev.bind h2 (Ev.now _)
  · rw [decide_eq_false h, Bool.and_false]
    exact Ev.no (by omega) (Ev.now _)
/-- The items after one edit, if it can be made. -/
def umV (l : List ByteArray) (e : S38) : Option (List ByteArray) :=
  if deV e.f0 e.f1 e.f2 e.f3 = true then
    if e.f0 = 0 then (if e.f1 > (l.length : Int) then none else if (l.length : Int) = 20 then none else some (l.take e.f1.toNat ++ e.f2 :: l.drop e.f1.toNat))
    else if e.f1 ≥ (l.length : Int) then none else if ((rdOf ByteArray.empty l e.f1).toList != e.f3.toList) = true then none
    else if e.f0 = 2 then some (l.take e.f1.toNat ++ e.f2 :: l.drop (e.f1.toNat + 1)) else some (l.take e.f1.toNat ++ l.drop (e.f1.toNat + 1))
  else none
def umR : Option (List ByteArray) → List ByteArray × Bool
  | none => ([], false)
  | some l => (l, true)
/-- The items after edits, if all can be made. -/
def uaV : List ByteArray → List S38 → Option (List ByteArray)
  | l, [] => some l
  | l, e :: es => (umV l e).bind fun l' => uaV l' es
theorem deV_in {a0 a1 : Int} {a2 a3 : ByteArray} (h : deV a0 a1 a2 a3 = true) : 0 ≤ a1 ∧ a1 ≤ 20 := by
  unfold deV at h
  by_cases e : 0 ≤ a1 ∧ a1 ≤ 20
  · exact e
  · rw [if_neg (by simpa using e)] at h; cases h
theorem glOK_ne {s : ByteArray} (h : glOK s = true) : s.toList ≠ [] := by
  intro e
  unfold glOK at h
  have h2 : 1 ≤ (s.size : Int) := (of_decide_eq_true (Bool.and_eq_true_iff.mp h).2).1
  have h3 : s.size = s.toList.length := by rw [← bs_list, Array.length_toList]; rfl
  rw [h3, e] at h2
  simp only [List.length_nil] at h2
  omega
theorem deV_old {a0 a1 : Int} {a2 a3 : ByteArray} (h : deV a0 a1 a2 a3 = true) (h0 : ¬ a0 = 0) : a3.toList ≠ [] := by
  unfold deV at h
  rw [if_pos (by simpa using deV_in h)] at h
  rw [if_neg h0] at h
  by_cases h1 : a0 = 1
  · rw [if_pos h1] at h
    split at h
    · exact glOK_ne h
    · cases h
  · rw [if_neg h1] at h
    split at h
    · split at h
      · split at h
        · rename_i h3; exact glOK_ne h3
        · cases h
      · cases h
    · cases h
theorem umV_len {l l' : List ByteArray} {e : S38} (h : umV l e = some l') (hl : l.length ≤ 20) : l'.length ≤ 20 := by
  unfold umV at h
  split at h
  · split at h
    · split at h
      · cases h
      · split at h
        · cases h
        · obtain rfl := Option.some.inj h
          simp; omega
    · split at h
      · cases h
      · split at h
        · cases h
        · split at h
          · obtain rfl := Option.some.inj h
            simp; omega
          · obtain rfl := Option.some.inj h
            simp; omega
  · cases h
theorem spec_unMake_ev (l : List ByteArray) (hl : l.length ≤ 20) (e : S38) (h2 : e.f2.size ≤ 1048576) (h3 : e.f3.size ≤ 1048576) : Ev (fun k => spec_unMake.f k l e.f0 e.f1 e.f2 e.f3) (umR (umV l e)) := by
  unfold spec_unMake.f umV
  refine Ev.bind (spec_unEdit_ev e.f0 e.f1 e.f2 e.f3 (by omega) (by omega)) ?_
  by_cases hd : deV e.f0 e.f1 e.f2 e.f3 = true
  · obtain ⟨hi0, hi1⟩ := deV_in hd
    simp only [if_pos hd]
    by_cases h0 : e.f0 = 0
    · simp only [if_pos h0]
      by_cases c1 : e.f1 > (l.length : Int)
      · simp only [if_pos c1]; exact Ev.now _
      · simp only [if_neg c1]
        by_cases c2 : (l.length : Int) = 20
        · simp only [if_pos c2]; exact Ev.now _
        · simp only [if_neg c2, Option.bind_some]
          refine Ev.congr (f := fun _ => some (l.take e.f1.toNat ++ e.f2 :: l.drop e.f1.toNat, true)) (fun k => ?_) (Ev.now _)
          simp only [if_pos hi0, if_pos (show e.f1 ≤ (l.length : Int) by omega), Option.bind_some]
          rw [if_pos (aL (by simp; omega)), if_pos (by simp; omega), if_pos (aL (by simp; omega))]
          simp
    · simp only [if_neg h0]
      by_cases c1 : e.f1 ≥ (l.length : Int)
      · simp only [if_pos c1]
        refine Ev.shift ?_
        simp only [spec_unMake.j0, if_true]
        exact Ev.now _
      · simp only [if_neg c1]
        refine Ev.congr (fun k => by rw [if_pos hi0, if_pos (by omega)]) ?_
        refine Ev.shift ?_
        simp only [spec_unMake.j0]
        by_cases c2 : ((rdOf ByteArray.empty l e.f1).toList != e.f3.toList) = true
        · simp only [if_pos c2]; exact Ev.now _
        · simp only [if_neg c2, Option.bind_some]
          have hw : wrap64 (e.f1 + 1) = e.f1 + 1 := w64_i (by omega) (by omega)
          have hn : (e.f1 + 1).toNat = e.f1.toNat + 1 := by omega
          refine Ev.congr (f := fun _ => some (umR (if e.f0 = 2 then some (l.take e.f1.toNat ++ e.f2 :: l.drop (e.f1.toNat + 1)) else some (l.take e.f1.toNat ++ l.drop (e.f1.toNat + 1))))) (fun k => ?_) (Ev.now _)
          rw [if_pos hi0, if_pos (by omega), if_pos (aL (by simp; omega)), hw, hn]
          by_cases c3 : e.f0 = 2
          · rw [if_pos c3, if_pos c3, if_pos (by simp; omega), if_pos (by omega), if_pos (by omega), if_pos (aL (by simp; omega))]
            simp [umR]
          · rw [if_neg c3, if_neg c3, if_pos (by omega), if_pos (by omega), if_pos (aL (by simp; omega))]
            simp [umR]
  · simp only [if_neg hd]; exact Ev.now _
theorem spec_after_from (es : List S38) (hes : es.length ≤ 1048576) (hE : ∀ e ∈ es, e.f2.size ≤ 1048576 ∧ e.f3.size ≤ 1048576) : ∀ (d i : Nat) (l : List ByteArray), es.length - i = d → i ≤ es.length → l.length ≤ 20 → Ev (fun k => spec_unAfter.l0 k l es (es.length : Int) (i : Int)) (umR (uaV l (es.drop i))) := by
  intro d
  induction d with
  | zero =>
    intro i l hd hi hl
    refine ⟨1, fun k hk => ?_⟩
    obtain ⟨k, rfl⟩ : ∃ m, k = m + 1 := ⟨k - 1, by omega⟩
    simp only [spec_unAfter.l0]
    rw [if_neg (by omega), List.drop_eq_nil_of_le (by omega)]
    rfl
  | succ d ih =>
    intro i l hd hi hl
    have hlt : i < es.length := by omega
    obtain ⟨s2, s3⟩ := hE es[i] (List.getElem_mem hlt)
    refine Ev.step (f := fun k => (spec_unMake.f k l es[i].f0 es[i].f1 es[i].f2 es[i].f3).bind fun b => if b.2 = true then spec_unAfter.l0 k b.1 es (es.length : Int) ((i + 1 : Nat) : Int) else some ([], false)) (fun k => ?_) ?_
    · simp only [spec_unAfter.l0]
      rw [if_pos (by omega), if_pos (by omega), if_pos (by omega), w64_succ (by omega), rdE es i hlt]
    · refine Ev.bind (spec_unMake_ev l hl es[i] s2 s3) ?_
      rw [List.drop_eq_getElem_cons hlt]
      simp only [uaV]
      cases h : umV l es[i] with
      | none => exact Ev.congr (f := fun _ => some ([], false)) (fun k => by simp [umR]) (Ev.now _)
      | some l' => exact Ev.congr (fun k => by simp only [umR, if_true]) (ih (i + 1) l' (by omega) (by omega) (umV_len h hl))
theorem spec_unAfter_ev (l : List ByteArray) (hl : l.length ≤ 20) (es : List S38) (hes : es.length ≤ 1048576) (hE : ∀ e ∈ es, e.f2.size ≤ 1048576 ∧ e.f3.size ≤ 1048576) : Ev (fun k => spec_unAfter.f k l es) (umR (uaV l es)) := by
  unfold spec_unAfter.f
  have h := spec_after_from es hes hE _ 0 l rfl (Nat.zero_le _) hl
  exact Ev.congr (fun k => by rw [Option.bind_some, if_pos (aL (by simp; omega))]; rfl) h
theorem item_val (l : List ByteArray) (hl : l.length ≤ 1048576) (i : Int) (h0 : 0 ≤ i) (h1 : i ≤ 20) : impl_itemAt.f l i = some (if i ≥ (l.length : Int) then ⟨#[]⟩ else rdOf ByteArray.empty l i) := by
  unfold impl_itemAt.f
  rw [w64_i (by omega) (by omega), within_val, Option.bind_some]
  by_cases c : i ≥ (l.length : Int)
  · rw [if_pos c, if_neg (by simp; omega)]
  · rw [if_neg c, if_pos (by simp; omega), if_pos h0, if_pos (by omega)]
theorem madeL_ev : ∀ (es : List S38) (l : List ByteArray), l.length ≤ 20 → (∀ e ∈ es, e.f2.size ≤ 1048576 ∧ e.f3.size ≤ 1048576) → Ev (fun k => madeL k l es) (umR (uaV l es))
  | [], l, _, _ => Ev.now _
  | e :: es, l, hl, hE => by
    obtain ⟨s2, s3⟩ := hE e (List.mem_cons_self ..)
    have hE' := fun x hx => hE x (List.mem_cons_of_mem _ hx)
    simp only [madeL, uaV]
    refine Ev.bind (impl_isDeskEdit_ev e.f0 e.f1 e.f2 e.f3 (by omega) (by omega)) ?_
    by_cases hd : deV e.f0 e.f1 e.f2 e.f3 = true
    · obtain ⟨hi0, hi1⟩ := deV_in hd
      have hcl : 0 ≤ e.f1 ∧ l.length ≤ 1000000 := ⟨hi0, by omega⟩
      simp only [if_pos hd, if_pos hcl]
      by_cases h0 : e.f0 = 0
      · simp only [if_pos h0]
        by_cases c1 : e.f1 > (l.length : Int)
        · rw [show umV l e = none by unfold umV; rw [if_pos hd, if_pos h0, if_pos c1]]
          simp only [if_pos c1]; exact Ev.now _
        · simp only [if_neg c1]
          by_cases c2 : (l.length : Int) = 20
          · rw [show umV l e = none by unfold umV; rw [if_pos hd, if_pos h0, if_neg c1, if_pos c2]]
            simp only [if_pos c2]; exact Ev.now _
          · have hu : umV l e = some (l.take e.f1.toNat ++ e.f2 :: l.drop e.f1.toNat) := by unfold umV; rw [if_pos hd, if_pos h0, if_neg c1, if_neg c2]
            rw [hu]
            simp only [if_neg c2, Option.bind_some]
            exact madeL_ev es _ (umV_len hu hl) hE'
      · simp only [if_neg h0, item_val l (by omega) e.f1 hi0 hi1, Option.bind_some]
        by_cases c1 : e.f1 ≥ (l.length : Int)
        · rw [show umV l e = none by unfold umV; rw [if_pos hd, if_neg h0, if_pos c1]]
          have hne : ((⟨#[]⟩ : ByteArray).toList != e.f3.toList) = true := by
            have h1 := deV_old hd h0
            have h2 : (⟨#[]⟩ : ByteArray).toList = [] := (bs_list _).symm
            rw [h2]
            exact bne_iff_ne.mpr (fun h => h1 h.symm)
          simp only [if_pos c1, if_pos hne]
          exact Ev.now _
        · simp only [if_neg c1]
          by_cases c2 : ((rdOf ByteArray.empty l e.f1).toList != e.f3.toList) = true
          · rw [show umV l e = none by unfold umV; rw [if_pos hd, if_neg h0, if_neg c1, if_pos c2]]
            simp only [if_pos c2]; exact Ev.now _
          · have hlt : e.f1 < (l.length : Int) := by omega
            simp only [if_neg c2, if_pos hlt]
            by_cases c3 : e.f0 = 1
            · have hu : umV l e = some (l.take e.f1.toNat ++ l.drop (e.f1.toNat + 1)) := by unfold umV; rw [if_pos hd, if_neg h0, if_neg c1, if_neg c2, if_neg (by omega)]
              rw [hu]
              simp only [if_pos c3, Option.bind_some, List.eraseIdx_eq_take_drop_succ]
              exact madeL_ev es _ (umV_len hu hl) hE'
            · have c4 : e.f0 = 2 := by rcases deV_kind hd with h | h | h; exact absurd h h0; exact absurd h c3; exact h
              have hu : umV l e = some (l.take e.f1.toNat ++ e.f2 :: l.drop (e.f1.toNat + 1)) := by unfold umV; rw [if_pos hd, if_neg h0, if_neg c1, if_neg c2, if_pos c4]
              have hs : l.set e.f1.toNat e.f2 = l.take e.f1.toNat ++ e.f2 :: l.drop (e.f1.toNat + 1) := by
                rw [List.set_eq_take_append_cons_drop, if_pos (by omega)]
              rw [hu]
              simp only [if_neg c3, Option.bind_some, hs]
              exact madeL_ev es _ (umV_len hu hl) hE'
    · rw [show umV l e = none by unfold umV; rw [if_neg hd]]
      simp only [if_neg hd]; exact Ev.now _
theorem impl_made_ev (l : List ByteArray) (hl : l.length ≤ 20) (es : List S38) (hes : es.length ≤ 1000000) (hE : ∀ e ∈ es, e.f2.size ≤ 1048576 ∧ e.f3.size ≤ 1048576) : Ev (fun k => impl_made.f k l es) (umR (uaV l es)) := by
  unfold impl_made.f
  exact Ev.congr (fun k => by rw [if_pos hes, slices_Clone_string_string.f, if_pos (by omega), Option.bind_some]) (madeL_ev es l hl hE)
theorem spec_all_from (a : List ByteArray) (b c : List S38) (hc : c.length ≤ 1048576) : ∀ (i : Nat) (acc : List S38), i ≤ c.length → acc.length + i ≤ 10000000 → Ev (fun k => spec_unAll.l0 k acc ((i : Int) - 1) a b c) (acc ++ (c.take i).reverse) := by
  intro i
  induction i with
  | zero =>
    intro acc hi ha
    refine ⟨1, fun k hk => ?_⟩
    obtain ⟨k, rfl⟩ : ∃ m, k = m + 1 := ⟨k - 1, by omega⟩
    simp only [spec_unAll.l0]
    rw [if_neg (by omega)]
    simp
  | succ i ih =>
    intro acc hi ha
    have hlt : i < c.length := by omega
    refine Ev.step (f := fun k => spec_unAll.l0 k (acc ++ [c[i]]) ((i : Int) - 1) a b c) (fun k => ?_) ?_
    · simp only [spec_unAll.l0]
      rw [show ((i + 1 : Nat) : Int) - 1 = (i : Int) by omega, if_pos (by omega), if_pos (by omega), if_pos (by omega), if_pos (by omega), rdE c i hlt, w64_i (by omega) (by omega)]
    · have h := ih (acc ++ [c[i]]) (by omega) (by simp; omega)
      rw [show acc ++ (c.take (i + 1)).reverse = acc ++ [c[i]] ++ (c.take i).reverse by rw [List.take_succ_eq_append_getElem hlt, List.reverse_append]; simp]
      exact h
theorem spec_unAll_ev (a : List ByteArray) (b c : List S38) (hb : b.length ≤ 1048576) (hc : c.length ≤ 1048576) : Ev (fun k => spec_unAll.f k a b c) (b ++ c.reverse) := by
  unfold spec_unAll.f
  have h := spec_all_from a b c hc c.length b (Nat.le_refl _) (by omega)
  rw [List.take_length] at h
  exact Ev.congr (fun k => by rw [Option.bind_some, if_pos (aL (by simp; omega)), w64_i (by omega) (by omega)]; rfl) h
theorem rev_from (l : List S38) (hl : l.length ≤ 1048576) : ∀ (d i : Nat) (x : List S38), l.length - i = d → i ≤ l.length → x.length = l.length → (∀ j, j < l.length → x[j]? = if j < i ∨ l.length < j + 1 + i then l[l.length - 1 - j]? else l[j]?) →
    Ev (fun k => impl_DeskEdit_103.l0 k x (i : Int) ((l.length : Int) - 1 - (i : Int))) l.reverse := by
  intro d
  induction d with
  | zero =>
    intro i x hd hi hx h
    refine ⟨1, fun k hk => ?_⟩
    obtain ⟨k, rfl⟩ : ∃ m, k = m + 1 := ⟨k - 1, by omega⟩
    simp only [impl_DeskEdit_103.l0]
    rw [if_neg (by omega)]
    congr 1
    apply List.ext_getElem?
    intro j
    by_cases hj : j < l.length
    · rw [h j hj, if_pos (by omega), List.getElem?_reverse hj]
    · rw [List.getElem?_eq_none (by omega), List.getElem?_eq_none (by simp; omega)]
  | succ d ih =>
    intro i x hd hi hx h
    by_cases hc : (i : Int) < (l.length : Int) - 1 - (i : Int)
    · have hj : (l.length : Int) - 1 - (i : Int) = ((l.length - 1 - i : Nat) : Int) := by omega
      have hir : i < x.length := by omega
      have hjr : l.length - 1 - i < x.length := by omega
      refine Ev.step (f := fun k => impl_DeskEdit_103.l0 k ((x.set i x[l.length - 1 - i]).set (l.length - 1 - i) x[i]) ((i + 1 : Nat) : Int) ((l.length : Int) - 1 - ((i + 1 : Nat) : Int))) (fun k => ?_) ?_
      · simp only [impl_DeskEdit_103.l0]
        rw [if_pos hc, hj, if_pos (by omega), if_pos (by omega), if_pos (by omega), if_pos (by omega), if_pos (by omega), if_pos (by omega), if_pos (by omega), if_pos (by omega), rdE x i hir, rdE x _ hjr, w64_succ (by omega), w64_i (by omega) (by omega), Int.toNat_natCast, Int.toNat_natCast, show ((l.length - 1 - i : Nat) : Int) - 1 = (l.length : Int) - 1 - ((i + 1 : Nat) : Int) by omega]
      · refine ih (i + 1) _ (by omega) (by omega) (by simp [hx]) (fun j hj' => ?_)
        have hi' := h i (by omega)
        have hj2 := h (l.length - 1 - i) (by omega)
        rw [if_neg (by omega), List.getElem?_eq_getElem hir] at hi'
        rw [if_neg (by omega), List.getElem?_eq_getElem hjr] at hj2
        by_cases e1 : j = l.length - 1 - i
        · subst e1
          rw [List.getElem?_set_self (by simp; omega), if_pos (by omega), hi', show l.length - 1 - (l.length - 1 - i) = i by omega]
        · rw [List.getElem?_set_ne (by omega)]
          by_cases e2 : j = i
          · subst e2
            rw [List.getElem?_set_self (by omega), if_pos (by omega), hj2]
          · rw [List.getElem?_set_ne (by omega), h j hj']
            by_cases e3 : j < i ∨ l.length < j + 1 + i
            · rw [if_pos e3, if_pos (by omega)]
            · rw [if_neg e3, if_neg (by omega)]
    · refine ⟨1, fun k hk => ?_⟩
      obtain ⟨k, rfl⟩ : ∃ m, k = m + 1 := ⟨k - 1, by omega⟩
      simp only [impl_DeskEdit_103.l0]
      rw [if_neg hc]
      congr 1
      apply List.ext_getElem?
      intro j
      by_cases hj : j < l.length
      · rw [h j hj, List.getElem?_reverse hj]
        by_cases e3 : j < i ∨ l.length < j + 1 + i
        · rw [if_pos e3]
        · rw [if_neg e3, show l.length - 1 - j = j by omega]
      · rw [List.getElem?_eq_none (by omega), List.getElem?_eq_none (by simp; omega)]
theorem rev_ev (l : List S38) (hl : l.length ≤ 1048576) : Ev (fun k => impl_DeskEdit_103.f k l) l.reverse := by
  unfold impl_DeskEdit_103.f
  have h := rev_from l hl _ 0 l rfl (Nat.zero_le _) rfl (fun j hj => by rw [if_neg (by omega)])
  rw [show (l.length : Int) - 1 - ((0 : Nat) : Int) = (l.length : Int) - 1 by omega] at h
  exact Ev.congr (fun k => by rw [w64_i (by omega) (by omega)]; rfl) h
theorem impl_all_ev (a : List ByteArray) (b c : List S38) (hb : b.length ≤ 1048576) (hc : c.length ≤ 1048576) : Ev (fun k => impl_Desk_all.f k a b c) (b ++ c.reverse) := by
  unfold impl_Desk_all.f
  refine Ev.congr (fun k => by rw [impl_DeskEdit_57.f, if_pos (by omega), Option.bind_some]) (Ev.bind (rev_ev c hc) ?_)
  exact Ev.congr (f := fun _ => some (b ++ c.reverse)) (fun k => if_pos (by simp; omega)) (Ev.now _)
def gdV (a : List ByteArray) (b c : List S38) : Bool := if itOK a = true then (if (b.length : Int) + (c.length : Int) > 30 then false else (umR (uaV a (b ++ c.reverse))).2) else false
/-- Lists of a desk that are not too large. -/
def DOk (a : List ByteArray) (b c : List S38) : Prop :=
  (a.length ≤ 1048576 ∧ ∀ x ∈ a, x.size ≤ 1048576) ∧ (b.length ≤ 1048576 ∧ ∀ e ∈ b, e.f2.size ≤ 1048576 ∧ e.f3.size ≤ 1048576) ∧ (c.length ≤ 1048576 ∧ ∀ e ∈ c, e.f2.size ≤ 1048576 ∧ e.f3.size ≤ 1048576)
theorem itOK_len {a : List ByteArray} (h : itOK a = true) : a.length ≤ 20 := of_decide_eq_true (Bool.and_eq_true_iff.mp h).2
theorem dok_all {a : List ByteArray} {b c : List S38} (h : DOk a b c) : ∀ e ∈ b ++ c.reverse, e.f2.size ≤ 1048576 ∧ e.f3.size ≤ 1048576 := by
  intro e he
  rcases List.mem_append.mp he with h1 | h1
  · exact h.2.1.2 e h1
  · exact h.2.2.2 e (by simpa using h1)
theorem spec_unGood_ev {a : List ByteArray} {b c : List S38} (h : DOk a b c) : Ev (fun k => spec_unGood.f k a b c) (gdV a b c) := by
  obtain ⟨⟨ha, hs⟩, ⟨hb, _⟩, hc, _⟩ := id h
  unfold spec_unGood.f gdV
  refine Ev.bind (spec_unItems_ev a ha hs) ?_
  by_cases hi : itOK a = true
  · simp only [if_pos hi]
    refine Ev.shift ?_
    simp only [spec_unGood.j0]
    rw [w64_i (by omega) (by omega)]
    by_cases c1 : (b.length : Int) + (c.length : Int) > 30
    · simp only [if_pos c1, decide_eq_true c1, if_true]; exact Ev.now _
    · simp only [if_neg c1, decide_eq_false c1, Bool.false_eq_true, if_false]
      exact Ev.bind (spec_unAll_ev a b c hb hc) (Ev.bind (spec_unAfter_ev a (itOK_len hi) _ (by simp; omega) (dok_all h)) (Ev.now _))
  · simp only [if_neg hi]
    refine Ev.shift ?_
    simp only [spec_unGood.j0, if_true]
    exact Ev.now _
theorem impl_IsDesk_ev {a : List ByteArray} {b c : List S38} (h : DOk a b c) : Ev (fun k => impl_IsDesk.f k a b c) (gdV a b c) := by
  obtain ⟨⟨ha, hs⟩, ⟨hb, _⟩, hc, _⟩ := id h
  unfold impl_IsDesk.f gdV
  refine Ev.bind (impl_areItems_ev a ha hs) ?_
  by_cases hi : itOK a = true
  · simp only [if_pos hi]
    refine Ev.shift ?_
    simp only [impl_IsDesk.j0]
    rw [w64_i (by omega) (by omega)]
    by_cases c1 : (b.length : Int) + (c.length : Int) > 30
    · simp only [if_pos c1, decide_eq_true c1, if_true]; exact Ev.now _
    · simp only [if_neg c1, decide_eq_false c1, Bool.false_eq_true, if_false]
      exact Ev.bind (impl_all_ev a b c hb hc) (Ev.bind (impl_made_ev a (itOK_len hi) _ (by simp; omega) (dok_all h)) (Ev.now _))
  · simp only [if_neg hi]
    refine Ev.shift ?_
    simp only [impl_IsDesk.j0, if_true]
    exact Ev.now _
theorem uaV_append : ∀ (es fs : List S38) (l : List ByteArray), uaV l (es ++ fs) = (uaV l es).bind fun l' => uaV l' fs
  | [], fs, l => rfl
  | e :: es, fs, l => by
    simp only [List.cons_append, uaV]
    cases umV l e with
    | none => rfl
    | some l' => simpa using uaV_append es fs l'
theorem uaV_len : ∀ (es : List S38) (l l' : List ByteArray), uaV l es = some l' → l.length ≤ 20 → l'.length ≤ 20
  | [], l, l', h, hl => by simp only [uaV, Option.some.injEq] at h; subst h; exact hl
  | e :: es, l, l', h, hl => by
    simp only [uaV] at h
    cases hu : umV l e with
    | none => rw [hu] at h; cases h
    | some m => rw [hu] at h; exact uaV_len es m l' (by simpa using h) (umV_len hu hl)
theorem umR_len {a : List ByteArray} (ha : a.length ≤ 20) (es : List S38) : (umR (uaV a es)).1.length ≤ 20 := by
  cases h : uaV a es with
  | none => simp [umR]
  | some l => exact uaV_len es a l h ha
theorem gdV_items {a : List ByteArray} {b c : List S38} (h : gdV a b c = true) : a.length ≤ 20 := by
  unfold gdV at h
  split at h
  · rename_i hi; exact itOK_len hi
  · cases h
theorem gdV_small {a : List ByteArray} {b c : List S38} (h : gdV a b c = true) : (b.length : Int) + (c.length : Int) ≤ 30 := by
  unfold gdV at h
  split at h
  · split at h
    · cases h
    · omega
  · cases h
/-- The first edits of a valid desk can be made. -/
theorem gdV_take {a : List ByteArray} {b c : List S38} (h : gdV a b c = true) (n : Nat) : (umR (uaV a ((b ++ c.reverse).take n))).2 = true := by
  unfold gdV at h
  split at h
  · split at h
    · cases h
    · rw [← List.take_append_drop n (b ++ c.reverse), uaV_append] at h
      cases hu : uaV a ((b ++ c.reverse).take n) with
      | none => rw [hu] at h; cases h
      | some l => rfl
  · cases h
theorem take_ok {es : List S38} (h : ∀ e ∈ es, e.f2.size ≤ 1048576 ∧ e.f3.size ≤ 1048576) (n : Nat) : ∀ e ∈ es.take n, e.f2.size ≤ 1048576 ∧ e.f3.size ≤ 1048576 := fun e he => h e (List.mem_of_mem_take he)
def iaV (a : List ByteArray) (b c : List S38) (n : Int) : List ByteArray × Bool := if gdV a b c = true ∧ (0 ≤ n ∧ n ≤ (b.length : Int) + (c.length : Int)) then ((umR (uaV a ((b ++ c.reverse).take n.toNat))).1, true) else ([], false)
theorem iaV_len (a : List ByteArray) (b c : List S38) (n : Int) : (iaV a b c n).1.length ≤ 20 := by
  unfold iaV
  split
  · rename_i h; exact umR_len (gdV_items h.1) _
  · simp
theorem unDesk_val (a : List ByteArray) (b c x y : List S38) (ha : a.length ≤ 1048576) (hx : x.length ≤ 1048576) (hy : y.length ≤ 1048576) : spec_unDesk.f a b c x y = some (a, x, y) := by
  unfold spec_unDesk.f
  simp only [Option.bind_some]
  rw [if_pos (aL (by simp; omega)), if_pos (aL (by simp; omega)), if_pos (aL (by simp; omega))]
  rfl
def noD : List ByteArray × List S38 × List S38 × Bool := ([], [], [], false)
/-- Lists that are short. -/
def Short (v : List ByteArray × List S38 × List S38 × Bool) : Prop := v.1.length ≤ 1048576 ∧ v.2.1.length ≤ 1048576 ∧ v.2.2.1.length ≤ 1048576
theorem impl_ItemsAfter_ev {a : List ByteArray} {b c : List S38} (h : DOk a b c) (n : Int) : Ev (fun k => impl_ItemsAfter.f k a b c n) (iaV a b c n) := by
  obtain ⟨⟨ha, hs⟩, ⟨hb, _⟩, hc, _⟩ := id h
  unfold impl_ItemsAfter.f iaV
  refine Ev.bind (impl_IsDesk_ev h) ?_
  by_cases hg : gdV a b c = true
  · simp only [if_pos hg, within_val, Option.bind_some, hg, true_and]
    rw [w64_i (by omega) (by omega)]
    refine Ev.shift ?_
    simp only [impl_ItemsAfter.j0]
    by_cases hn : 0 ≤ n ∧ n ≤ (b.length : Int) + (c.length : Int)
    · simp only [if_pos hn, decide_eq_true hn, Bool.not_true, Bool.false_eq_true, if_false]
      refine Ev.bind (impl_all_ev a b c hb hc) ?_
      refine Ev.congr (fun k => by rw [if_pos hn.1, if_pos (by simp; omega)]) ?_
      have hsm := gdV_small hg
      refine Ev.bind (impl_made_ev a (gdV_items hg) _ (by simp; omega) (take_ok (dok_all h) _)) ?_
      rw [gdV_take hg]
      exact Ev.now _
    · simp only [if_neg hn, decide_eq_false hn, Bool.not_false, if_true]
      exact Ev.now _
  · simp only [hg, if_false, false_and]
    refine Ev.shift ?_
    simp only [impl_ItemsAfter.j0, if_true]
    exact Ev.now _
theorem spec_unNow_ev {a : List ByteArray} {b c : List S38} (h : DOk a b c) (ha : a.length ≤ 20) : Ev (fun k => spec_unNow.f k a b c) (umR (uaV a b)).1 := by
  unfold spec_unNow.f
  exact Ev.bind (spec_unAfter_ev a ha b h.2.1.1 h.2.1.2) (Ev.now _)
theorem impl_ItemsNow_ev {a : List ByteArray} {b c : List S38} (h : DOk a b c) : Ev (fun k => impl_ItemsNow.f k a b c) (iaV a b c (b.length : Int)) := by
  unfold impl_ItemsNow.f
  exact Ev.bind (impl_ItemsAfter_ev h _) (Ev.now _)
theorem spec_ItemsNow_ev {a : List ByteArray} {b c : List S38} (h : DOk a b c) : Ev (fun k => spec_ItemsNow.f k a b c) (iaV a b c (b.length : Int)) := by
  unfold spec_ItemsNow.f iaV
  refine Ev.bind (spec_unGood_ev h) ?_
  by_cases hg : gdV a b c = true
  · rw [if_pos ⟨hg, by omega, by omega⟩, show (b ++ c.reverse).take (b.length : Int).toNat = b by rw [Int.toNat_natCast]; exact List.take_left ..]
    simp only [if_pos hg]
    exact Ev.bind (spec_unNow_ev h (gdV_items hg)) (Ev.now _)
  · simp only [hg, if_false, false_and]
    exact Ev.now _
theorem umV_items {M : Nat} {l l' : List ByteArray} {e : S38} (h : umV l e = some l') (hl : ∀ x ∈ l, x.size ≤ M) (he : e.f2.size ≤ M) : ∀ x ∈ l', x.size ≤ M := by
  unfold umV at h
  have key : ∀ i j, l' = l.take i ++ e.f2 :: l.drop j ∨ l' = l.take i ++ l.drop j → ∀ x ∈ l', x.size ≤ M := by
    rintro i j (rfl | rfl) x hx
    · rcases List.mem_append.mp hx with h1 | h1
      · exact hl x (List.mem_of_mem_take h1)
      · rcases List.mem_cons.mp h1 with rfl | h2
        · exact he
        · exact hl x (List.mem_of_mem_drop h2)
    · rcases List.mem_append.mp hx with h1 | h1
      · exact hl x (List.mem_of_mem_take h1)
      · exact hl x (List.mem_of_mem_drop h1)
  split at h
  · split at h
    · split at h
      · cases h
      · split at h
        · cases h
        · exact key _ _ (.inl (Option.some.inj h).symm)
    · split at h
      · cases h
      · split at h
        · cases h
        · split at h
          · exact key _ _ (.inl (Option.some.inj h).symm)
          · exact key _ _ (.inr (Option.some.inj h).symm)
  · cases h
theorem uaV_items {M : Nat} : ∀ (es : List S38) (l l' : List ByteArray), uaV l es = some l' → (∀ x ∈ l, x.size ≤ M) → (∀ e ∈ es, e.f2.size ≤ M) → ∀ x ∈ l', x.size ≤ M
  | [], l, l', h, hl, _ => by simp only [uaV, Option.some.injEq] at h; subst h; exact hl
  | e :: es, l, l', h, hl, he => by
    simp only [uaV] at h
    cases hu : umV l e with
    | none => rw [hu] at h; cases h
    | some m => rw [hu] at h; exact uaV_items es m l' (by simpa using h) (umV_items hu hl (he e (List.mem_cons_self ..))) (fun x hx => he x (List.mem_cons_of_mem _ hx))
/-- The items now, of a valid desk. -/
def nowV (a : List ByteArray) (b : List S38) : List ByteArray := (umR (uaV a b)).1
theorem now_some {a : List ByteArray} {b c : List S38} (h : gdV a b c = true) : uaV a b = some (nowV a b) := by
  have h1 := gdV_take h b.length
  rw [List.take_left] at h1
  unfold nowV
  cases hu : uaV a b with
  | none => rw [hu] at h1; cases h1
  | some l => rfl
theorem now_len {a : List ByteArray} {b c : List S38} (h : gdV a b c = true) : (nowV a b).length ≤ 20 := umR_len (gdV_items h) b
theorem now_items {a : List ByteArray} {b c : List S38} (h : gdV a b c = true) (hd : DOk a b c) : ∀ x ∈ nowV a b, x.size ≤ 1048576 :=
  uaV_items b a _ (now_some h) hd.1.2 (fun e he => (hd.2.1.2 e he).1)
/-- A desk after one more edit. -/
def edV (a : List ByteArray) (b : List S38) (e : S38) : List ByteArray × List S38 × List S38 × Bool := if (umV (nowV a b) e).isSome = true then (if (b.length : Int) = 30 then noD else (a, b ++ [e], [], true)) else noD
theorem edV_len {a : List ByteArray} {b c : List S38} (h : gdV a b c = true) (e : S38) : Short (edV a b e) := by
  have h1 := gdV_items h
  have h2 := gdV_small h
  unfold edV Short
  split
  · split
    · simp [noD]
    · simp; omega
  · simp [noD]
theorem edV_none {a : List ByteArray} {b : List S38} {e : S38} (h : deV e.f0 e.f1 e.f2 e.f3 = false) : edV a b e = noD := by
  have hn : umV (nowV a b) e = none := by unfold umV; exact if_neg (by rw [h]; decide)
  unfold edV
  rw [hn]
  rfl
theorem spec_unDo_ev {a : List ByteArray} {b c : List S38} (h : gdV a b c = true) (hd : DOk a b c) (e : S38) (h2 : e.f2.size ≤ 1048576) (h3 : e.f3.size ≤ 1048576) : Ev (fun k => spec_unDo.f k a b c e.f0 e.f1 e.f2 e.f3) (edV a b e) := by
  have g1 := gdV_items h
  have g2 := gdV_small h
  unfold spec_unDo.f edV
  refine Ev.bind (spec_unNow_ev hd g1) ?_
  refine Ev.bind (spec_unMake_ev _ (now_len h) e h2 h3) ?_
  show Ev (fun k => if (umR (umV (nowV a b) e)).2 = true then _ else _) _
  cases hu : umV (nowV a b) e with
  | none => simp only [umR, Option.isSome_none, Bool.false_eq_true, if_false]; exact Ev.now _
  | some l =>
    simp only [umR, Option.isSome_some, if_true]
    by_cases h30 : (b.length : Int) = 30
    · simp only [if_pos h30]; exact Ev.now _
    · simp only [if_neg h30, Option.bind_some]
      refine Ev.congr (f := fun _ => some (a, b ++ [e], [], true)) (fun k => ?_) (Ev.now _)
      rw [if_pos (aL (by simp; omega)), if_pos (by simp; omega), unDesk_val _ _ _ _ _ (by omega) (by simp; omega) (by simp)]
      rfl
/-- What the program's (Desk).edited does, behind the items. -/
theorem edited_ev {a : List ByteArray} {b c : List S38} (h : gdV a b c = true) (hd : DOk a b c) (e : S38) (h2 : e.f2.size ≤ 1048576) (h3 : e.f3.size ≤ 1048576) (h30 : ¬ (b.length : Int) = 30) :
    Ev (fun k => (impl_IsDesk.f k a (b ++ [e]) []).bind fun t => if t = true then some (a, b ++ [e], [], true) else some ([], [], [], false)) (edV a b e) := by
  have g1 := gdV_items h
  have g2 := gdV_small h
  have hd2 : DOk a (b ++ [e]) [] := ⟨hd.1, ⟨by simp; omega, fun x hx => by
    rcases List.mem_append.mp hx with h1 | h1
    · exact hd.2.1.2 x h1
    · obtain rfl := List.mem_singleton.mp h1; exact ⟨h2, h3⟩⟩, by simp, fun x hx => by cases hx⟩
  have hi : itOK a = true := by
    cases hc : itOK a with
    | true => rfl
    | false => unfold gdV at h; rw [if_neg (by rw [hc]; decide)] at h; cases h
  have hg : gdV a (b ++ [e]) [] = (umV (nowV a b) e).isSome := by
    unfold gdV
    rw [if_pos hi, if_neg (by simp; omega), List.reverse_nil, List.append_nil, uaV_append, now_some h]
    simp only [Option.bind_some, uaV]
    cases umV (nowV a b) e <;> rfl
  refine Ev.bind (impl_IsDesk_ev hd2) ?_
  rw [hg]
  unfold edV
  rw [if_neg h30]
  cases (umV (nowV a b) e).isSome
  · exact Ev.now _
  · exact Ev.now _
theorem now_iaV {a : List ByteArray} {b c : List S38} (h : gdV a b c = true) : iaV a b c (b.length : Int) = (nowV a b, true) := by
  unfold iaV nowV
  rw [if_pos ⟨h, by omega, by omega⟩]
  simp
theorem bad_iaV {a : List ByteArray} {b c : List S38} (h : ¬ gdV a b c = true) (n : Int) : iaV a b c n = ([], false) := by
  unfold iaV
  rw [if_neg (fun e => h e.1)]
theorem clone_ok (a : List ByteArray) (h : a.length ≤ 20) : slices_Clone_string_string.f a = some a := by
  unfold slices_Clone_string_string.f
  rw [if_pos (by omega)]
theorem cloneE_ok (b : List S38) (h : b.length ≤ 30) : impl_DeskEdit_57.f b = some b := by
  unfold impl_DeskEdit_57.f
  rw [if_pos (by omega)]
def atV (l : List ByteArray) (i : Int) : ByteArray := if 0 ≤ i ∧ i ≤ (l.length : Int) - 1 then rdOf ByteArray.empty l i else ⟨#[]⟩
theorem itemAt_val (l : List ByteArray) (hl : l.length ≤ 20) (i : Int) : impl_itemAt.f l i = some (atV l i) := by
  unfold impl_itemAt.f atV
  rw [within_val, w64_i (by omega) (by omega), Option.bind_some]
  by_cases h : 0 ≤ i ∧ i ≤ (l.length : Int) - 1
  · rw [if_pos (decide_eq_true h), if_pos h.1, if_pos (by omega), if_pos h]
  · rw [if_neg (by simpa using h), if_neg h]
theorem atV_size {l : List ByteArray} {M : Nat} (h : ∀ x ∈ l, x.size ≤ M) (i : Int) : (atV l i).size ≤ M := by
  unfold atV
  split
  · rename_i hi
    obtain ⟨n, rfl⟩ : ∃ n : Nat, i = (n : Int) := ⟨i.toNat, by omega⟩
    rw [rdO l n (by omega)]
    exact h _ (List.getElem_mem ..)
  · exact Nat.zero_le _
theorem glOK_empty : glOK ⟨#[]⟩ = false := by decide
theorem spec_unAt_ev {a : List ByteArray} {b c : List S38} (h : gdV a b c = true) (hd : DOk a b c) (i : Int) : Ev (fun k => spec_unAt.f k a b c i) (if 0 ≤ i ∧ i ≤ ((nowV a b).length : Int) - 1 then (atV (nowV a b) i, true) else (⟨#[]⟩, false)) := by
  have hl := now_len h
  unfold spec_unAt.f atV
  refine Ev.bind (spec_unNow_ev hd (gdV_items h)) ?_
  show Ev (fun k => (spec_l1In.f i 0 (wrap64 (((nowV a b).length : Int) - 1))).bind _) _
  rw [in_val, w64_i (by omega) (by omega), Option.bind_some]
  by_cases hi : 0 ≤ i ∧ i ≤ ((nowV a b).length : Int) - 1
  · simp only [decide_eq_true hi, if_pos hi, if_true]
    have hi2 : i < ((umR (uaV a b)).1.length : Int) := by have := hi.2; unfold nowV at this; omega
    simp only [if_pos hi.1, if_pos hi2]
    exact Ev.now _
  · simp only [decide_eq_false hi, if_neg hi, Bool.false_eq_true, if_false]; exact Ev.now _
def dlV (a : List ByteArray) (b c : List S38) (i : Int) : List ByteArray × List S38 × List S38 × Bool := if gdV a b c = true then edV a b ⟨1, i, ⟨#[]⟩, atV (nowV a b) i⟩ else noD
theorem dlV_len (a : List ByteArray) (b c : List S38) (i : Int) : Short (dlV a b c i) := by
  unfold dlV
  split
  · rename_i h; exact edV_len h _
  · simp [noD, Short]
theorem spec_DeleteItem_ev {a : List ByteArray} {b c : List S38} (hd : DOk a b c) (i : Int) : Ev (fun k => spec_DeleteItem.f k a b c i) (dlV a b c i) := by
  unfold spec_DeleteItem.f dlV
  refine Ev.bind (spec_unGood_ev hd) ?_
  by_cases h : gdV a b c = true
  · simp only [if_pos h]
    refine Ev.bind (spec_unAt_ev h hd i) ?_
    by_cases hi : 0 ≤ i ∧ i ≤ ((nowV a b).length : Int) - 1
    · simp only [if_pos hi, if_true]
      refine Ev.bind (spec_unDo_ev h hd ⟨1, i, ⟨#[]⟩, atV (nowV a b) i⟩ (Nat.zero_le _) (atV_size (now_items h hd) i)) ?_
      exact Ev.now _
    · simp only [if_neg hi, Bool.false_eq_true, if_false]
      rw [edV_none (by
        unfold deV atV
        simp only [if_neg hi]
        split
        · simp [glOK_empty]
        · rfl)]
      exact Ev.now _
  · simp only [if_neg h]; exact Ev.now _
def rpV (a : List ByteArray) (b c : List S38) (i : Int) (g : ByteArray) : List ByteArray × List S38 × List S38 × Bool := if gdV a b c = true then edV a b ⟨2, i, g, atV (nowV a b) i⟩ else noD
theorem rpV_len (a : List ByteArray) (b c : List S38) (i : Int) (g : ByteArray) : Short (rpV a b c i g) := by
  unfold rpV
  split
  · rename_i h; exact edV_len h _
  · simp [noD, Short]
theorem spec_ReplaceItem_ev {a : List ByteArray} {b c : List S38} (hd : DOk a b c) (i : Int) (g : ByteArray) (hg : g.size ≤ 1048576) : Ev (fun k => spec_ReplaceItem.f k a b c i g) (rpV a b c i g) := by
  unfold spec_ReplaceItem.f rpV
  refine Ev.bind (spec_unGood_ev hd) ?_
  by_cases h : gdV a b c = true
  · simp only [if_pos h]
    refine Ev.bind (spec_enGloss_ev g (by omega)) ?_
    refine Ev.shift ?_
    simp only [spec_ReplaceItem.j0]
    by_cases hg2 : glOK g = true
    · simp only [hg2, Bool.not_true, Bool.false_eq_true, if_false]
      refine Ev.bind (spec_unAt_ev h hd i) ?_
      by_cases hi : 0 ≤ i ∧ i ≤ ((nowV a b).length : Int) - 1
      · simp only [if_pos hi, if_true]
        refine Ev.bind (spec_unDo_ev h hd ⟨2, i, g, atV (nowV a b) i⟩ hg (atV_size (now_items h hd) i)) ?_
        exact Ev.now _
      · simp only [if_neg hi, Bool.false_eq_true, if_false]
        rw [edV_none (by
          unfold deV atV
          simp only [if_neg hi, glOK_empty, Bool.false_eq_true, if_false, ite_self]
          split
          · first | rfl | (rw [if_neg (by decide), if_neg (by decide)]; simp)
          · rfl)]
        exact Ev.now _
    · have hg3 : glOK g = false := Bool.eq_false_iff.mpr hg2
      simp only [hg3, Bool.not_false, if_true]
      rw [edV_none (by
        unfold deV
        simp only [hg3, Bool.false_eq_true, if_false]
        split
        · first | rfl | (rw [if_neg (by decide), if_neg (by decide)]; simp)
        · rfl)]
      exact Ev.now _
  · simp only [if_neg h]
    refine Ev.shift ?_
    simp only [spec_ReplaceItem.j0, if_true]
    exact Ev.now _
def inV (a : List ByteArray) (b c : List S38) (i : Int) (g : ByteArray) : List ByteArray × List S38 × List S38 × Bool := if gdV a b c = true then edV a b ⟨0, i, g, ⟨#[]⟩⟩ else noD
theorem inV_len (a : List ByteArray) (b c : List S38) (i : Int) (g : ByteArray) : Short (inV a b c i g) := by
  unfold inV
  split
  · rename_i h; exact edV_len h _
  · simp [noD, Short]
theorem spec_InsertItem_ev {a : List ByteArray} {b c : List S38} (hd : DOk a b c) (i : Int) (g : ByteArray) (hg : g.size ≤ 1048576) : Ev (fun k => spec_InsertItem.f k a b c i g) (inV a b c i g) := by
  unfold spec_InsertItem.f inV
  refine Ev.bind (spec_unGood_ev hd) ?_
  by_cases h : gdV a b c = true
  · simp only [if_pos h]
    refine Ev.bind (spec_enGloss_ev g (by omega)) ?_
    by_cases hg2 : glOK g = true
    · simp only [if_pos hg2]
      refine Ev.bind (spec_unDo_ev h hd ⟨0, i, g, ⟨#[]⟩⟩ hg (Nat.zero_le _)) ?_
      exact Ev.now _
    · simp only [if_neg hg2]
      rw [edV_none (by
        unfold deV
        simp only [if_true]
        split
        · first | rfl | rw [if_neg hg2]
        · rfl)]
      exact Ev.now _
  · simp only [if_neg h]; exact Ev.now _
def fgV (a : List ByteArray) (b c : List S38) (n : Int) : List ByteArray × List S38 × List S38 × Bool := if gdV a b c = true ∧ (0 ≤ n ∧ n ≤ (b.length : Int)) then ((umR (uaV a (b.take n.toNat))).1, b.drop n.toNat, c, true) else noD
theorem fgV_len (a : List ByteArray) (b c : List S38) (n : Int) : Short (fgV a b c n) := by
  unfold fgV Short
  split
  · rename_i h
    have h1 := umR_len (gdV_items h.1) (b.take n.toNat)
    have h2 := gdV_small h.1
    refine ⟨by simp only []; omega, by simp; omega, by simp only []; omega⟩
  · simp [noD]
def sdV (l : List ByteArray) : List ByteArray × List S38 × List S38 × Bool := if itOK l = true then (l, [], [], true) else ([], [], [], false)
theorem spec_StartDesk_ev (l : List ByteArray) (hl : l.length ≤ 1048576) (hs : ∀ x ∈ l, x.size ≤ 1048576) : Ev (fun k => spec_StartDesk.f k l) (sdV l) := by
  unfold spec_StartDesk.f sdV
  refine Ev.bind (spec_unItems_ev l hl hs) ?_
  cases itOK l
  · exact Ev.now _
  · exact Ev.congr (f := fun _ => some (l, [], [], true)) (fun k => by simp only [if_true, Option.bind_some]; rw [if_pos (aL (by simp; omega))]; rfl) (Ev.now _)
theorem sdV_len (l : List ByteArray) (hl : l.length ≤ 1048576) : (sdV l).1.length ≤ 1048576 ∧ (sdV l).2.1.length ≤ 1048576 ∧ (sdV l).2.2.1.length ≤ 1048576 := by
  unfold sdV
  split <;> simp [hl]
def udV (a : List ByteArray) (b c : List S38) : List ByteArray × List S38 × List S38 × Bool := if gdV a b c = true then (if (b.length : Int) = 0 then noD else (a, b.take ((b.length : Int) - 1).toNat, c ++ [rd_T38 b ((b.length : Int) - 1)], true)) else noD
theorem udV_len (a : List ByteArray) (b c : List S38) : Short (udV a b c) := by
  unfold udV Short
  split
  · rename_i h
    have h1 := gdV_items h
    have h2 := gdV_small h
    split
    · simp [noD]
    · simp; omega
  · simp [noD]
theorem spec_UndoEdit_ev {a : List ByteArray} {b c : List S38} (h : DOk a b c) : Ev (fun k => spec_UndoEdit.f k a b c) (udV a b c) := by
  unfold spec_UndoEdit.f udV
  refine Ev.bind (spec_unGood_ev h) ?_
  by_cases hg : gdV a b c = true
  · have h1 := gdV_items hg
    have h2 := gdV_small hg
    simp only [if_pos hg]
    by_cases h0 : (b.length : Int) = 0
    · simp only [if_pos h0]; exact Ev.now _
    · simp only [if_neg h0]
      have hw : wrap64 ((b.length : Int) - 1) = (b.length : Int) - 1 := w64_i (by omega) (by omega)
      refine Ev.congr (f := fun _ => some (a, b.take ((b.length : Int) - 1).toNat, c ++ [rd_T38 b ((b.length : Int) - 1)], true)) (fun k => ?_) (Ev.now _)
      simp only [Option.bind_some, hw]
      rw [if_pos (by omega), if_pos (by omega), if_pos (aL (by simp; omega)), if_pos (by omega), if_pos (by omega), if_pos (by simp; omega), unDesk_val _ _ _ _ _ (by omega) (by simp; omega) (by simp; omega)]
      rfl
  · simp only [if_neg hg]; exact Ev.now _
def rdV (a : List ByteArray) (b c : List S38) : List ByteArray × List S38 × List S38 × Bool := if gdV a b c = true then (if (c.length : Int) = 0 then noD else (a, b ++ [rd_T38 c ((c.length : Int) - 1)], c.take ((c.length : Int) - 1).toNat, true)) else noD
theorem rdV_len (a : List ByteArray) (b c : List S38) : Short (rdV a b c) := by
  unfold rdV Short
  split
  · rename_i h
    have h1 := gdV_items h
    have h2 := gdV_small h
    split
    · simp [noD]
    · simp; omega
  · simp [noD]
theorem spec_RedoEdit_ev {a : List ByteArray} {b c : List S38} (h : DOk a b c) : Ev (fun k => spec_RedoEdit.f k a b c) (rdV a b c) := by
  unfold spec_RedoEdit.f rdV
  refine Ev.bind (spec_unGood_ev h) ?_
  by_cases hg : gdV a b c = true
  · have h1 := gdV_items hg
    have h2 := gdV_small hg
    simp only [if_pos hg]
    by_cases h0 : (c.length : Int) = 0
    · simp only [if_pos h0]; exact Ev.now _
    · simp only [if_neg h0]
      have hw : wrap64 ((c.length : Int) - 1) = (c.length : Int) - 1 := w64_i (by omega) (by omega)
      refine Ev.congr (f := fun _ => some (a, b ++ [rd_T38 c ((c.length : Int) - 1)], c.take ((c.length : Int) - 1).toNat, true)) (fun k => ?_) (Ev.now _)
      simp only [Option.bind_some, hw]
      rw [if_pos (aL (by simp; omega)), if_pos (by omega), if_pos (by omega), if_pos (by simp; omega), if_pos (by omega), if_pos (by omega), unDesk_val _ _ _ _ _ (by omega) (by simp; omega) (by simp; omega)]
      rfl
  · simp only [if_neg hg]; exact Ev.now _
theorem ieKind_twice {x : Int} (h : x = 0 ∨ x = 1 ∨ x = 2) : ieKind (ieKind x) = x := by rcases h with rfl | rfl | rfl <;> rfl
theorem deV_inv {a0 a1 : Int} {a2 a3 : ByteArray} (h : deV a0 a1 a2 a3 = true) : deV (ieKind a0) a1 a3 a2 = true := by
  have hi := deV_in h
  rcases deV_kind h with rfl | rfl | rfl
  · unfold deV at h ⊢
    rw [if_pos (by simpa using hi)] at h ⊢
    simp only [ieKind, if_true, show ¬ ((1 : Int) = 0) by decide, if_false] at h ⊢
    by_cases g : glOK a2 = true
    · rw [if_pos g] at h; rw [if_pos (by simpa using h), g]
    · rw [if_neg g] at h; cases h
  · unfold deV at h ⊢
    rw [if_pos (by simpa using hi)] at h ⊢
    simp only [ieKind, if_true, show ¬ ((1 : Int) = 0) by decide, if_false] at h ⊢
    by_cases g : a2.toList = []
    · rw [if_pos g] at h; rw [if_pos h]; simpa using g
    · rw [if_neg g] at h; cases h
  · unfold deV at h ⊢
    rw [if_pos (by simpa using hi)] at h ⊢
    simp only [ieKind, if_true, show ¬ ((2 : Int) = 0) by decide, show ¬ ((2 : Int) = 1) by decide, if_false] at h ⊢
    by_cases g : glOK a2 = true
    · by_cases g3 : glOK a3 = true
      · rw [if_pos g, if_pos g3] at h; rw [if_pos g3, if_pos g]
        simp only [bne_iff_ne, ne_eq] at h ⊢
        exact fun e => h e.symm
      · rw [if_pos g, if_neg g3] at h; cases h
    · rw [if_neg g] at h; cases h
theorem umV_del {l l' : List ByteArray} {e : S38} (h : umV l e = some l') (h1 : e.f0 = 1) : (l'.length : Int) = (l.length : Int) - 1 := by
  unfold umV at h
  rw [h1] at h
  split at h
  · rename_i hd
    have hi := deV_in hd
    rw [if_neg (by decide)] at h
    split at h
    · cases h
    · split at h
      · cases h
      · rw [if_neg (by decide)] at h
        obtain rfl := Option.some.inj h
        simp
        omega
  · cases h
theorem rdO_app (l r : List ByteArray) (x : ByteArray) (i : Int) (h0 : 0 ≤ i) (h : i ≤ (l.length : Int)) : rdOf ByteArray.empty (l.take i.toNat ++ x :: r) i = x := by
  obtain ⟨n, rfl⟩ : ∃ n : Nat, i = (n : Int) := ⟨i.toNat, by omega⟩
  rw [rdO _ n (by simp; omega)]
  simp only [Int.toNat_natCast]
  rw [List.getElem_append_right (by simp; omega)]
  simp [show n - min n l.length = 0 by omega]
theorem umV_rep {l l' : List ByteArray} {e : S38} (h : umV l e = some l') (h1 : e.f0 = 2) : 0 ≤ e.f1 ∧ e.f1 < (l'.length : Int) ∧ rdOf ByteArray.empty l' e.f1 = e.f2 := by
  unfold umV at h
  rw [h1] at h
  split at h
  · rename_i hd
    have hi := deV_in hd
    rw [if_neg (by decide)] at h
    split at h
    · cases h
    · split at h
      · cases h
      · rw [if_pos rfl] at h
        obtain rfl := Option.some.inj h
        refine ⟨hi.1, ?_, rdO_app l _ _ _ hi.1 (by omega)⟩
        simp
        omega
  · cases h
theorem umV_ins {l l' : List ByteArray} {e : S38} (h : umV l e = some l') (h1 : e.f0 = 0) : (l'.length : Int) = (l.length : Int) + 1 ∧ 0 ≤ e.f1 ∧ e.f1 < (l'.length : Int) ∧ rdOf ByteArray.empty l' e.f1 = e.f2 := by
  unfold umV at h
  rw [h1] at h
  split at h
  · rename_i hd
    have hi := deV_in hd
    rw [if_pos rfl] at h
    split at h
    · cases h
    · split at h
      · cases h
      · obtain rfl := Option.some.inj h
        refine ⟨by simp; omega, hi.1, by simp; omega, rdO_app l _ _ _ hi.1 (by omega)⟩
  · cases h
theorem gdV_parts {a : List ByteArray} {b c : List S38} : gdV a b c = true ↔ itOK a = true ∧ (b.length : Int) + (c.length : Int) ≤ 30 ∧ ∃ l, uaV a (b ++ c.reverse) = some l := by
  unfold gdV
  by_cases hi : itOK a = true
  · rw [if_pos hi]
    by_cases h30 : (b.length : Int) + (c.length : Int) > 30
    · rw [if_pos h30]
      constructor
      · intro h; cases h
      · rintro ⟨_, h, _⟩; omega
    · rw [if_neg h30]
      cases hu : uaV a (b ++ c.reverse) with
      | none => simp [umR]
      | some l => simp [umR, hi]; omega
  · rw [if_neg hi]
    simp [hi]
theorem glOK_edit {l l' : List ByteArray} {e : S38} (h : umV l e = some l') (hl : l.all glOK = true) : l'.all glOK = true := by
  rw [List.all_eq_true] at hl ⊢
  unfold umV at h
  have key : ∀ i j, (glOK e.f2 = true ∧ l' = l.take i ++ e.f2 :: l.drop j) ∨ l' = l.take i ++ l.drop j → ∀ x ∈ l', glOK x = true := by
    rintro i j (⟨hg, rfl⟩ | rfl) x hx
    · rcases List.mem_append.mp hx with h1 | h1
      · exact hl x (List.mem_of_mem_take h1)
      · rcases List.mem_cons.mp h1 with rfl | h2
        · exact hg
        · exact hl x (List.mem_of_mem_drop h2)
    · rcases List.mem_append.mp hx with h1 | h1
      · exact hl x (List.mem_of_mem_take h1)
      · exact hl x (List.mem_of_mem_drop h1)
  split at h
  · rename_i hd
    have hi := deV_in hd
    unfold deV at hd
    rw [if_pos (by simpa using hi)] at hd
    split at h
    · rename_i h0
      rw [if_pos h0] at hd
      split at h
      · cases h
      · split at h
        · cases h
        · refine key _ _ (.inl ⟨?_, (Option.some.inj h).symm⟩)
          split at hd
          · rename_i g; exact g
          · cases hd
    · rename_i h0
      rw [if_neg h0] at hd
      split at h
      · cases h
      · split at h
        · cases h
        · split at h
          · rename_i h2
            refine key _ _ (.inl ⟨?_, (Option.some.inj h).symm⟩)
            rw [if_neg (by omega), if_pos h2] at hd
            split at hd
            · rename_i g; exact g
            · cases hd
          · exact key _ _ (.inr (Option.some.inj h).symm)
  · cases h
theorem glOK_edits : ∀ (es : List S38) (l l' : List ByteArray), uaV l es = some l' → l.all glOK = true → l'.all glOK = true
  | [], l, l', h, hl => by simp only [uaV, Option.some.injEq] at h; subst h; exact hl
  | e :: es, l, l', h, hl => by
    simp only [uaV] at h
    cases hu : umV l e with
    | none => rw [hu] at h; cases h
    | some m => rw [hu] at h; exact glOK_edits es m l' (by simpa using h) (glOK_edit hu hl)
theorem itOK_edits {es : List S38} {l l' : List ByteArray} (h : uaV l es = some l') (hl : itOK l = true) : itOK l' = true := by
  unfold itOK at hl ⊢
  rw [Bool.and_eq_true] at hl ⊢
  exact ⟨glOK_edits es l l' h hl.1, decide_eq_true (uaV_len es l l' h (of_decide_eq_true hl.2))⟩
/-- A desk behind one more edit. -/
theorem edV_yes {a : List ByteArray} {b c : List S38} {e : S38} (h : gdV a b c = true) (hk : (edV a b e).2.2.2 = true) :
    edV a b e = (a, b ++ [e], [], true) ∧ gdV a (b ++ [e]) [] = true ∧ umV (nowV a b) e = some (nowV a (b ++ [e])) := by
  have g2 := gdV_small h
  have hp := gdV_parts.mp h
  unfold edV at hk ⊢
  cases hu : umV (nowV a b) e with
  | none => rw [hu] at hk; simp [noD] at hk
  | some l' =>
    rw [hu] at hk
    simp only [Option.isSome_some, if_true] at hk ⊢
    by_cases h30 : (b.length : Int) = 30
    · rw [if_pos h30] at hk; simp [noD] at hk
    · rw [if_neg h30]
      have hua : uaV a (b ++ [e]) = some l' := by
        rw [uaV_append, now_some h]
        simp only [Option.bind_some, uaV, hu]
      refine ⟨rfl, gdV_parts.mpr ⟨hp.1, by simp; omega, l', by simpa using hua⟩, ?_⟩
      unfold nowV
      rw [hua]
      rfl
theorem edV_no {a : List ByteArray} {b : List S38} {e : S38} (hk : ¬ (edV a b e).2.2.2 = true) : edV a b e = noD := by
  unfold edV at hk ⊢
  split
  · rename_i h1
    rw [if_pos h1] at hk
    split
    · rfl
    · rename_i h2; rw [if_neg h2] at hk; exact absurd rfl hk
  · rfl
/-- A desk whose first edits are forgotten. -/
theorem fg_good {a : List ByteArray} {b c : List S38} {n : Nat} (h : gdV a b c = true) (hn : n ≤ b.length) :
    gdV (umR (uaV a (b.take n))).1 (b.drop n) c = true ∧ nowV (umR (uaV a (b.take n))).1 (b.drop n) = nowV a b := by
  have h1 := gdV_take h n
  rw [List.take_append_of_le_length hn] at h1
  obtain ⟨p1, p2, l, p3⟩ := gdV_parts.mp h
  cases hu : uaV a (b.take n) with
  | none => rw [hu] at h1; cases h1
  | some m =>
    have hsp : ∀ r, uaV a (b ++ r) = uaV m (b.drop n ++ r) := fun r => by
      rw [show b ++ r = b.take n ++ (b.drop n ++ r) by rw [← List.append_assoc, List.take_append_drop], uaV_append, hu]
      rfl
    simp only [umR]
    refine ⟨gdV_parts.mpr ⟨itOK_edits hu p1, by simp; omega, l, by rw [← hsp, p3]⟩, ?_⟩
    unfold nowV
    rw [show b = b ++ [] by simp, hsp]
    simp
theorem impl_UndoEdit_ev {a : List ByteArray} {b c : List S38} (h : DOk a b c) : Ev (fun k => impl_UndoEdit.f k a b c) (udV a b c) := by
  obtain ⟨⟨ha, hs⟩, ⟨hb, _⟩, hc, _⟩ := id h
  unfold impl_UndoEdit.f udV
  refine Ev.bind (impl_IsDesk_ev h) ?_
  have hw : wrap64 ((b.length : Int) - 1) = (b.length : Int) - 1 := w64_i (by omega) (by omega)
  rw [hw]
  by_cases hg : gdV a b c = true
  · have h1 := gdV_items hg
    have h2 := gdV_small hg
    simp only [if_pos hg]
    refine Ev.shift ?_
    simp only [impl_UndoEdit.j0]
    by_cases h0 : (b.length : Int) = 0
    · simp only [if_pos h0, decide_eq_true (show (b.length : Int) - 1 < 0 by omega), if_true]; exact Ev.now _
    · simp only [if_neg h0, decide_eq_false (show ¬ (b.length : Int) - 1 < 0 by omega), Bool.false_eq_true, if_false]
      refine Ev.congr (f := fun _ => some (a, b.take ((b.length : Int) - 1).toNat, c ++ [rd_T38 b ((b.length : Int) - 1)], true)) (fun k => ?_) (Ev.now _)
      simp only [slices_Clone_string_string.f, impl_DeskEdit_57.f]
      rw [if_pos (by omega), Option.bind_some, if_pos (by omega), if_pos (by omega), if_pos (by simp; omega), Option.bind_some, if_pos (by omega), Option.bind_some, if_pos (by omega), if_pos (by omega), Option.bind_some, if_pos (aL (by simp; omega))]
  · simp only [if_neg hg]
    refine Ev.shift ?_
    simp only [impl_UndoEdit.j0, if_true]
    exact Ev.now _
theorem impl_RedoEdit_ev {a : List ByteArray} {b c : List S38} (h : DOk a b c) : Ev (fun k => impl_RedoEdit.f k a b c) (rdV a b c) := by
  obtain ⟨⟨ha, hs⟩, ⟨hb, _⟩, hc, _⟩ := id h
  unfold impl_RedoEdit.f rdV
  refine Ev.bind (impl_IsDesk_ev h) ?_
  have hw : wrap64 ((c.length : Int) - 1) = (c.length : Int) - 1 := w64_i (by omega) (by omega)
  rw [hw]
  by_cases hg : gdV a b c = true
  · have h1 := gdV_items hg
    have h2 := gdV_small hg
    simp only [if_pos hg]
    refine Ev.shift ?_
    simp only [impl_RedoEdit.j0]
    by_cases h0 : (c.length : Int) = 0
    · simp only [if_pos h0, decide_eq_true (show (c.length : Int) - 1 < 0 by omega), if_true]; exact Ev.now _
    · simp only [if_neg h0, decide_eq_false (show ¬ (c.length : Int) - 1 < 0 by omega), Bool.false_eq_true, if_false]
      refine Ev.congr (f := fun _ => some (a, b ++ [rd_T38 c ((c.length : Int) - 1)], c.take ((c.length : Int) - 1).toNat, true)) (fun k => ?_) (Ev.now _)
      simp only [slices_Clone_string_string.f, impl_DeskEdit_57.f]
      rw [if_pos (by omega), Option.bind_some, if_pos (by omega), Option.bind_some, if_pos (by omega), if_pos (by omega), Option.bind_some, if_pos (aL (by simp; omega)), if_pos (by omega), if_pos (by omega), if_pos (by simp; omega), Option.bind_some]
  · simp only [if_neg hg]
    refine Ev.shift ?_
    simp only [impl_RedoEdit.j0, if_true]
    exact Ev.now _
theorem impl_InsertItem_ev {a : List ByteArray} {b c : List S38} (hd : DOk a b c) (i : Int) (g : ByteArray) (hg : g.size ≤ 1048576) : Ev (fun k => impl_InsertItem.f k a b c i g) (inV a b c i g) := by
  suffices H : Ev (fun k => ins2.f k a b c i g) (inV a b c i g) by
    unfold impl_InsertItem.f
    exact Ev.bind H (Ev.now _)
  unfold ins2.f inV
  refine Ev.bind (impl_ItemsNow_ev hd) ?_
  by_cases h : gdV a b c = true
  · have g1 := gdV_items h
    have g2 := gdV_small h
    rw [now_iaV h]
    simp only [if_pos h, if_true]
    by_cases h30 : (b.length : Int) = 30
    · simp only [if_pos h30]
      unfold edV
      rw [if_pos h30]
      simp only [ite_self]
      exact Ev.now _
    · simp only [if_neg h30, clone_ok a g1, cloneE_ok b (by omega), Option.bind_some, ins1.f]
      refine Ev.yes (by omega) ?_
      exact edited_ev h hd ⟨0, i, g, ⟨#[]⟩⟩ hg (Nat.zero_le _) h30
  · rw [bad_iaV h]
    simp only [if_neg h, Bool.false_eq_true, if_false]; exact Ev.now _
end Go.Proofs.Ytgpkeclojbcgoaa.PA
