/- The law FnDesks, plainly: for all drawn desks what is undone can be done again, new edits leave nothing to do again, and items are those of all edits. -/
import Derived.Test.YtgpkeclojbcgoaaWalkFnDesks
import Derived.Test.YtgpkeclojbcgoaaPAx4
import Derived.Test.YtgpkeclojbcgoaaQDeskX
namespace Go.Proofs.Ytgpkeclojbcgoaa.Pure
open Go.RowKit Go.Proofs.Ytgpkeclojbcgoaa.PA Go.Proofs.YtgpkeclojbcgoaaW.PrintWords Go.Proofs.YtgpkeclojbcgoaaW.PrintLast Go.Proofs.YtgpkeclojbcgoaaW.PrintMore
set_option linter.unusedVariables false
set_option linter.unusedSimpArgs false
theorem drawUndo_d {c : List Int} (h : Cur c 0 0) : Evs (fun k => spec_DrawUndoEdit.f k c) (fun r => DOk r.1 r.2.1 r.2.2) := by
  unfold spec_DrawUndoEdit.f spec_DrawIsDesk.f
  exact Evs.last (Evs.last (P := fun r => DeskR c 1000 r) (Q := fun r => DOk r.1 r.2.1 r.2.2) (desk_d 0 h (by decide)) (fun a ha => ha.1)) (fun a ha => ha)
theorem drawInsert_d {c : List Int} (h : Cur c 0 0) : Evs (fun k => spec_DrawInsertItem.f k c) (fun r => DOk r.1 r.2.1 r.2.2.1 ∧ r.2.2.2.2.size ≤ 9) := by
  unfold spec_DrawInsertItem.f
  refine Evs.bind (desk_d 0 h (by decide)) ?_
  rintro ⟨a, b, r, c1, i1, s1⟩ ⟨hd, rfl, h1⟩
  refine Evs.bind (itemPlace_d s1 h1 (by decide)) ?_
  rintro ⟨p, c2, i2, s2⟩ ⟨rfl, h2, _⟩
  exact Evs.last (anyGloss_d s2 h2 (by decide)) (fun a ha => ⟨hd, ha.2.2⟩)
theorem j4_d {a : List ByteArray} {b r : List S38} (i : Int) (g : ByteArray) (hg : g.size ≤ 9) (hd : DOk a b r) :
    Evs (fun k => laws_FnDesks.j4 k i g (inV a b r i g).2.2.2 false a b r (inV a b r i g).1 (inV a b r i g).2.1 (inV a b r i g).2.2.1 (inV a b r i g).1 (inV a b r i g).2.1 (inV a b r i g).2.2.1) (fun r => r = true) := by
  refine Evs.shift ?_
  simp only [laws_FnDesks.j4]
  refine Evs.no (by decide) (Evs.ite (fun hk => ?_) (fun _ => Evs.now rfl))
  obtain ⟨p0, p1, p2, p3, p4, p5, p6⟩ := inV_yes hk
  have hf := inV_d ⟨p0, hd⟩ (by omega) hk
  have hn := now_len p0
  have hb := gdV_small p0
  refine Evs.eqn (spec_ItemsNow_ev hd) (Evs.eqn (impl_ItemsNow_ev hf.2) (Evs.eqn (spec_ItemsNow_ev hf.2) ?_))
  rw [now_iaV hf.1, now_iaV p0]
  refine Evs.yes rfl (Evs.yes rfl (Evs.yes rfl (Evs.eqn (sameTexts_ev _ (by have := now_len hf.1; simp only []; omega)) (Evs.yes rfl (Evs.yes ?_ (Evs.yes p2 (Evs.yes p3 (Evs.yes (by simp only []; rw [p4]) (Evs.no ?_ (Evs.yes ?_ (Evs.eqn (impl_IsDesk_ev hf.2) (Evs.yes hf.1 (Evs.now rfl)))))))))))))
  · simp only []
    rw [w64_i (by omega) (by omega), p1]
  · rw [p5]; simp
  · rw [w64_i (by omega) (by omega), p6]
theorem j3_d {c : List Int} (h : Cur c 0 0) : Evs (fun k => laws_FnDesks.j3 k c) (fun r => r = true) := by
  refine Evs.shift ?_
  simp only [laws_FnDesks.j3]
  refine Evs.bind (drawInsert_d h) ?_
  rintro ⟨a, b, r, i, g⟩ ⟨hd, hg⟩
  simp only [] at hd hg
  refine Evs.eqn (impl_InsertItem_ev hd i g (by omega)) (Evs.eqn (spec_InsertItem_ev hd i g (by omega)) ?_)
  exact Evs.yes (by simp) (Evs.eqn (sameDesk_ev _ (inV_len a b r i g)) (j4_d i g hg hd))
theorem short_of {a : List ByteArray} {b r : List S38} (h : DOk a b r) : Short (a, b, r, true) := ⟨h.1.1, h.2.1.1, h.2.2.1⟩
theorem j2_d {c : List Int} (h : Cur c 0 0) {a : List ByteArray} {b r : List S38} (hd : DOk a b r) :
    Evs (fun k => laws_FnDesks.j2 k c (rdV a b r).2.2.2 a b r (rdV a b r).1 (rdV a b r).2.1 (rdV a b r).2.2.1) (fun r => r = true) := by
  refine Evs.shift ?_
  simp only [laws_FnDesks.j2]
  refine Evs.ite (fun hk => ?_) (fun _ => j3_d h)
  have hg : gdV a b r = true := by rw [rdV_ok] at hk; exact (Bool.and_eq_true_iff.mp hk).1
  have hf := rdV_d ⟨hg, hd⟩ hk
  obtain ⟨c', x, rfl, e, hg2⟩ := rdV_yes hg hk
  rw [e] at hf ⊢
  refine Evs.eqn (impl_UndoEdit_ev hf.2) ?_
  simp only [ud_back hg2]
  exact Evs.yes trivial (Evs.eqn (sameDesk_ev (a, b, c' ++ [x], true) (short_of hd)) (Evs.yes rfl (Evs.eqn (impl_IsDesk_ev hf.2) (Evs.yes hf.1 (j3_d h)))))
theorem j1_d {c : List Int} (h : Cur c 0 0) {a : List ByteArray} {b r : List S38} {x : S38} (hg : gdV a (b ++ [x]) r = true) (hd : DOk a (b ++ [x]) r) :
    Evs (fun k => laws_FnDesks.j1 k c (rdV a (b ++ [x]) r).2.2.2 false a (b ++ [x]) r (rdV a (b ++ [x]) r).1 (rdV a (b ++ [x]) r).2.1 (rdV a (b ++ [x]) r).2.2.1) (fun r => r = true) := by
  have hl := gdV_small hg
  have hw : wrap64 ((((b ++ [x]).length : Nat) : Int) - 1) = (((b ++ [x]).length : Nat) : Int) - 1 := w64_i (by omega) (by omega)
  have hx := last_good hg
  have hs := hd.2.1.2 x (by simp)
  refine Evs.shift ?_
  simp only [laws_FnDesks.j1, hw, last_rd]
  refine Evs.no (by decide) (Evs.yes (by simp; try omega) (Evs.yes (by omega) ?_))
  refine Evs.eqn (impl_InverseEdit_ev _ _ _ _ (by omega) (by omega)) (Evs.eqn (spec_InverseEdit_ev _ _ _ _ (by omega) (by omega)) ?_)
  have e : (ivV x.f0 x.f1 x.f2 x.f3).2.2.2.2 = true := by unfold ivV; rw [if_pos hx]
  exact Evs.yes e (Evs.yes e (Evs.yes (by simp) (j2_d h hd)))
theorem j0_d {c : List Int} (h : Cur c 0 0) {a : List ByteArray} {b r : List S38} (hd : DOk a b r) :
    Evs (fun k => laws_FnDesks.j0 k c (udV a b r).2.2.2 (rdV a b r).2.2.2 false a b r (udV a b r).1 (udV a b r).2.1 (udV a b r).2.2.1 (rdV a b r).1 (rdV a b r).2.1 (rdV a b r).2.2.1) (fun r => r = true) := by
  refine Evs.shift ?_
  simp only [laws_FnDesks.j0]
  refine Evs.no (by decide) (Evs.ite (fun hk => ?_) (fun _ => j2_d h hd))
  have hg : gdV a b r = true := by rw [udV_ok] at hk; exact (Bool.and_eq_true_iff.mp hk).1
  have hf := udV_d ⟨hg, hd⟩ hk
  have hl := gdV_small hg
  obtain ⟨b', x, rfl, e, hg2⟩ := udV_yes hg hk
  have hw : wrap64 ((((b' ++ [x]).length : Nat) : Int) - 1) = (((b' ++ [x]).length : Nat) : Int) - 1 := w64_i (by omega) (by omega)
  rw [e] at hf ⊢
  simp only [hw]
  have hn : (nowV a b').length ≤ 20 := now_len hf.1
  refine Evs.eqn (impl_RedoEdit_ev hf.2) (Evs.eqn (impl_ItemsAfter_ev hd _) (Evs.eqn (impl_ItemsNow_ev hf.2) ?_))
  simp only [rd_back hg2, ia_last hg, now_iaV hf.1]
  exact Evs.yes trivial (Evs.eqn (sameDesk_ev (a, b' ++ [x], r, true) (short_of hd)) (Evs.yes rfl (Evs.yes trivial (Evs.yes trivial (Evs.eqn (sameTexts_ev _ (by omega)) (Evs.yes rfl (Evs.eqn (impl_IsDesk_ev hf.2) (by
    simp only [show gdV a b' (r ++ [x]) = true from hf.1, Bool.not_true]
    exact j1_d h hg hd))))))))
theorem FnDesks : laws_FnDesks.Pure := by
  rintro x0 x1 ⟨hl0, hb0⟩ ⟨hl1, hb1⟩
  have c0 := cur0 hb0
  have c1 := cur0 hb1
  suffices h : Evs (fun k => laws_FnDesks.f k x0 x1) (fun r => r = true) by
    obtain ⟨b, hb, rfl⟩ := h
    exact Ev.rounds hb
  unfold laws_FnDesks.f
  obtain ⟨b, hb⟩ := big_val (l1 := x1) hl0
  refine Evs.bind (P := fun _ => True) (Evs.val ⟨b, hb, trivial⟩) (fun b _ => Evs.ite (fun _ => Evs.now rfl) (fun _ => ?_))
  refine Evs.bind (drawUndo_d c0) ?_
  rintro ⟨a, b, r⟩ hd
  simp only [] at hd
  refine Evs.eqn (impl_UndoEdit_ev hd) (Evs.eqn (spec_UndoEdit_ev hd) (Evs.eqn (impl_RedoEdit_ev hd) (Evs.eqn (spec_RedoEdit_ev hd) (Evs.eqn (impl_ItemsNow_ev hd) (Evs.eqn (spec_ItemsNow_ev hd) ?_)))))
  have hI : (iaV a b r (b.length : Int)).2 = gdV a b r := by
    by_cases h : gdV a b r = true
    · rw [now_iaV h, h]
    · rw [bad_iaV h]; exact (Bool.eq_false_iff.mpr h).symm
  have J := j0_d c1 hd
  refine Evs.yes (by simp) (Evs.eqn (sameDesk_ev _ (udV_len a b r)) (Evs.yes rfl (Evs.yes (by simp) (Evs.eqn (sameDesk_ev _ (rdV_len a b r)) (Evs.yes rfl (Evs.yes (by simp) (Evs.eqn (sameTexts_ev _ (Nat.le_trans (iaV_len a b r _) (by decide))) (Evs.yes rfl (Evs.eqn (impl_IsDesk_ev hd) (Evs.yes (by simp [hI]) ?_))))))))))
  refine Evs.ite (fun hk => ?_) (fun hk => ?_)
  · rw [hI] at hk
    refine Evs.yes (by rw [udV_ok, hk]; simp) (Evs.yes (by rw [hI]; exact hk) ?_)
    have e : (!((rdV a b r).2.2.2 == decide ((r.length : Int) > 0))) = false := by rw [rdV_ok, hk]; simp
    simp only [e]
    exact J
  · rw [hI] at hk
    have hk' := Bool.eq_false_iff.mpr hk
    refine Evs.yes (by rw [udV_ok, hk']; simp) (Evs.no (by rw [hI]; exact hk) ?_)
    have e : (!((rdV a b r).2.2.2 == false)) = false := by rw [rdV_ok, hk']; simp
    simp only [e]
    exact J
end Go.Proofs.Ytgpkeclojbcgoaa.Pure
