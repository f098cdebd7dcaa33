/- The law FnEdits, plainly: for all drawn edits inverse ones lead back, deleted and replaced items are gone, and forgotten edits change no item. -/
import Derived.Test.YtgpkeclojbcgoaaGreatDoorWalkFnEdits
import Derived.Test.YtgpkeclojbcgoaaGreatDoorPAx3
import Derived.Test.YtgpkeclojbcgoaaGreatDoorQDeskW
namespace Go.Proofs.YtgpkeclojbcgoaaGreatDoor.Pure
open Go.RowKit Go.Proofs.YtgpkeclojbcgoaaGreatDoor.PA Go.Proofs.YtgpkeclojbcgoaaGreatDoorW.PrintWords Go.Proofs.YtgpkeclojbcgoaaGreatDoorW.PrintLast Go.Proofs.YtgpkeclojbcgoaaGreatDoorW.PrintMore
set_option linter.unusedVariables false
set_option linter.unusedSimpArgs false
theorem drawInverse_d {c : List Int} (h : Cur c 0 0) : Evs (fun k => spec_DrawInverseEdit.f k c) (fun r => r.2.2.1.size ≤ 9 ∧ r.2.2.2.size ≤ 9) := by
  unfold spec_DrawInverseEdit.f
  exact Evs.last (deskEdit_d 0 h (by decide)) (fun a ha => ⟨ha.1, ha.2.1⟩)
theorem drawDelete_d {c : List Int} (h : Cur c 0 0) : Evs (fun k => spec_DrawDeleteItem.f k c) (fun r => DOk r.1 r.2.1 r.2.2.1) := by
  unfold spec_DrawDeleteItem.f
  refine Evs.bind (desk_d 0 h (by decide)) ?_
  rintro ⟨a, b, r, c1, i1, s1⟩ ⟨hd, rfl, h1⟩
  exact Evs.last (itemPlace_d s1 h1 (by decide)) (fun a ha => hd)
theorem drawInsert_d {c : List Int} (h : Cur c 0 0) : Evs (fun k => spec_DrawInsertItem.f k c) (fun r => DOk r.1 r.2.1 r.2.2.1 ∧ r.2.2.2.2.size ≤ 9) := by
  unfold spec_DrawInsertItem.f
  refine Evs.bind (desk_d 0 h (by decide)) ?_
  rintro ⟨a, b, r, c1, i1, s1⟩ ⟨hd, rfl, h1⟩
  refine Evs.bind (itemPlace_d s1 h1 (by decide)) ?_
  rintro ⟨p, c2, i2, s2⟩ ⟨rfl, h2, _⟩
  exact Evs.last (anyGloss_d s2 h2 (by decide)) (fun a ha => ⟨hd, ha.2.2⟩)
theorem drawReplace_d {c : List Int} (h : Cur c 0 0) : Evs (fun k => spec_DrawReplaceItem.f k c) (fun r => DOk r.1 r.2.1 r.2.2.1 ∧ r.2.2.2.2.size ≤ 9) := by
  unfold spec_DrawReplaceItem.f
  exact Evs.last (drawInsert_d h) (fun a ha => ha)
theorem drawForget_d {c : List Int} (h : Cur c 0 0) : Evs (fun k => spec_DrawForgetEdits.f k c) (fun r => DOk r.1 r.2.1 r.2.2.1) := by
  unfold spec_DrawForgetEdits.f
  refine Evs.bind (desk_d 0 h (by decide)) ?_
  rintro ⟨a, b, r, c1, i1, s1⟩ ⟨hd, rfl, h1⟩
  refine Evs.bind (pick_d s1 h1 (by decide) _) ?_
  rintro ⟨p, c2, i2, s2⟩ ⟨rfl, h2, _⟩
  exact Evs.last (among_d (R := fun _ => True) s2 h2 (by decide) _ (by simp) (fun _ _ => trivial)) (fun a ha => hd)
theorem drawAfter_d {c : List Int} (h : Cur c 0 0) : Evs (fun k => spec_DrawItemsAfter.f k c) (fun r => DOk r.1 r.2.1 r.2.2.1) := by
  unfold spec_DrawItemsAfter.f
  refine Evs.bind (desk_d 0 h (by decide)) ?_
  rintro ⟨a, b, r, c1, i1, s1⟩ ⟨hd, rfl, h1⟩
  refine Evs.bind (pick_d s1 h1 (by decide) _) ?_
  rintro ⟨p, c2, i2, s2⟩ ⟨rfl, h2, _⟩
  exact Evs.last (among_d (R := fun _ => True) s2 h2 (by decide) _ (by simp) (fun _ _ => trivial)) (fun a ha => hd)
theorem drawStart_d {c : List Int} (h : Cur c 0 0) : Evs (fun k => spec_DrawStartDesk.f k c) ItemsR := by
  unfold spec_DrawStartDesk.f
  exact Evs.last (items_d 0 h (by decide)) (fun a ha => ha.2.2)
/-! ### The parts of the law, from its end -/
theorem j7_d {c : List Int} (h : Cur c 0 0) : Evs (fun k => laws_FnEdits.j7 k c) (fun r => r = true) := by
  refine Evs.shift ?_
  simp only [laws_FnEdits.j7]
  refine Evs.bind (drawAfter_d h) ?_
  rintro ⟨a, b, r, n⟩ hd
  refine Evs.eqn (impl_ItemsAfter_ev hd n) (Evs.eqn (spec_ItemsAfter_ev hd n) (Evs.bind (drawStart_d h) ?_))
  intro l hl
  have hs := sdV_len l (items_ok hl).1
  refine Evs.eqn (impl_StartDesk_ev l (items_ok hl).1 (items_ok hl).2) (Evs.eqn (spec_StartDesk_ev l (items_ok hl).1 (items_ok hl).2) ?_)
  refine Evs.yes (by simp) (Evs.eqn (sameTexts_ev _ (Nat.le_trans (iaV_len a b r n) (by decide))) (Evs.yes rfl (Evs.yes (by simp) (Evs.eqn (sameDesk_ev _ hs) (Evs.yes rfl ?_)))))
  refine Evs.ite (fun hk => ?_) (fun _ => Evs.now rfl)
  have e : (sdV l).1 = l := by
    unfold sdV at hk ⊢
    split
    · rfl
    · rename_i h0; rw [if_neg h0] at hk; cases hk
  rw [e]
  exact Evs.eqn (sameTexts_ev _ (items_ok hl).1) (Evs.now rfl)
theorem fgV_d {a : List ByteArray} {b r : List S25} {n : Int} (hd : DOk a b r) (hk : (fgV a b r n).2.2.2 = true) :
    DeskG a b r ∧ DeskG (fgV a b r n).1 (fgV a b r n).2.1 (fgV a b r n).2.2.1 ∧ nowV (fgV a b r n).1 (fgV a b r n).2.1 = nowV a b ∧ ((fgV a b r n).2.1.length : Int) = (b.length : Int) - n ∧ 0 ≤ n := by
  unfold fgV at hk ⊢
  by_cases h : gdV a b r = true ∧ (0 ≤ n ∧ n ≤ (b.length : Int))
  · rw [if_pos h]
    obtain ⟨g, h0, h1⟩ := h
    obtain ⟨p1, p2⟩ := fg_good (n := n.toNat) g (by omega)
    obtain ⟨d1, ⟨d2, d3⟩, d4, d5⟩ := id hd
    refine ⟨⟨g, hd⟩, ⟨p1, ⟨?_, ?_⟩, ⟨by simp; omega, fun x hx => d3 x (List.mem_of_mem_drop hx)⟩, d4, d5⟩, p2, by simp; omega, h0⟩
    · have := umR_len (gdV_items g) (b.take n.toNat); simp only []; omega
    · cases hu : uaV a (b.take n.toNat) with
      | none => intro x hx; simp [umR] at hx
      | some l => exact uaV_items _ a l hu d1.2 (fun e he => (d3 e (List.mem_of_mem_take he)).1)
  · rw [if_neg h] at hk
    simp [noD] at hk
theorem j6_d {c : List Int} (h : Cur c 0 0) {a : List ByteArray} {b r : List S25} (n : Int) (hd : DOk a b r) :
    Evs (fun k => laws_FnEdits.j6 k c n (fgV a b r n).2.2.2 false a b r (fgV a b r n).1 (fgV a b r n).2.1 (fgV a b r n).2.2.1 (fgV a b r n).1 (fgV a b r n).2.1 (fgV a b r n).2.2.1) (fun r => r = true) := by
  refine Evs.shift ?_
  simp only [laws_FnEdits.j6]
  refine Evs.no (by decide) (Evs.ite (fun hk => ?_) (fun _ => j7_d h))
  obtain ⟨hg, hf, p1, p2, p3⟩ := fgV_d hd hk
  refine Evs.eqn (impl_ItemsNow_ev hd) (Evs.eqn (impl_ItemsNow_ev hf.2) ?_)
  rw [now_iaV hg.1, now_iaV hf.1, p1]
  refine Evs.yes rfl (Evs.yes rfl (Evs.eqn (sameTexts_ev _ (by have := now_len hg.1; simp only []; omega)) (Evs.yes rfl (Evs.yes ?_ (Evs.eqn (impl_IsDesk_ev hf.2) (Evs.yes hf.1 (j7_d h)))))))
  have := gdV_small hg.1
  rw [w64_i (by omega) (by omega), p2]
theorem j5_d {c : List Int} (h : Cur c 0 0) : Evs (fun k => laws_FnEdits.j5 k c) (fun r => r = true) := by
  refine Evs.shift ?_
  simp only [laws_FnEdits.j5]
  refine Evs.bind (drawForget_d h) ?_
  rintro ⟨a, b, r, n⟩ hd
  refine Evs.eqn (impl_ForgetEdits_ev hd n) (Evs.eqn (spec_ForgetEdits_ev hd n) ?_)
  exact Evs.yes (by simp) (Evs.eqn (sameDesk_ev _ (fgV_len a b r n)) (j6_d h n hd))
theorem rpV_yes {a : List ByteArray} {b r : List S25} {i : Int} {g : ByteArray} (hk : (rpV a b r i g).2.2.2 = true) :
    gdV a b r = true ∧ 0 ≤ i ∧ i < ((nowV (rpV a b r i g).1 (rpV a b r i g).2.1).length : Int) ∧ rdOf ByteArray.empty (nowV (rpV a b r i g).1 (rpV a b r i g).2.1) i = g := by
  unfold rpV at hk ⊢
  by_cases h : gdV a b r = true
  · rw [if_pos h] at hk ⊢
    obtain ⟨e1, e2, e3⟩ := edV_yes h hk
    rw [e1]
    exact ⟨h, umV_rep e3 rfl⟩
  · rw [if_neg h] at hk; simp [noD] at hk
theorem j4_d {c : List Int} (h : Cur c 0 0) {a : List ByteArray} {b r : List S25} (i : Int) (g : ByteArray) (hg : g.size ≤ 9) (hd : DOk a b r) :
    Evs (fun k => laws_FnEdits.j4 k c i g (rpV a b r i g).2.2.2 false (rpV a b r i g).1 (rpV a b r i g).2.1 (rpV a b r i g).2.2.1 (rpV a b r i g).1 (rpV a b r i g).2.1 (rpV a b r i g).2.2.1) (fun r => r = true) := by
  refine Evs.shift ?_
  simp only [laws_FnEdits.j4]
  refine Evs.no (by decide) (Evs.ite (fun hk => ?_) (fun _ => j5_d h))
  obtain ⟨p0, p1, p2, p3⟩ := rpV_yes hk
  have hf := rpV_d ⟨p0, hd⟩ (by omega) hk
  refine Evs.eqn (spec_ItemsNow_ev hf.2) (Evs.eqn (impl_ItemsNow_ev hf.2) ?_)
  rw [now_iaV hf.1]
  refine Evs.yes rfl (Evs.yes rfl (Evs.eqn (sameTexts_ev _ (by have := now_len hf.1; simp only []; omega)) (Evs.yes rfl (Evs.yes p1 (Evs.yes p2 (Evs.yes (by simp only []; rw [p3]) (Evs.eqn (impl_IsDesk_ev hf.2) (Evs.yes hf.1 (j5_d h)))))))))
theorem j3_d {c : List Int} (h : Cur c 0 0) : Evs (fun k => laws_FnEdits.j3 k c) (fun r => r = true) := by
  refine Evs.shift ?_
  simp only [laws_FnEdits.j3]
  refine Evs.bind (drawReplace_d h) ?_
  rintro ⟨a, b, r, i, g⟩ ⟨hd, hg⟩
  simp only [] at hd hg
  refine Evs.eqn (impl_ReplaceItem_ev hd i g (by omega)) (Evs.eqn (spec_ReplaceItem_ev hd i g (by omega)) ?_)
  exact Evs.yes (by simp) (Evs.eqn (sameDesk_ev _ (rpV_len a b r i g)) (j4_d h i g hg hd))
theorem dlV_yes {a : List ByteArray} {b r : List S25} {i : Int} (hk : (dlV a b r i).2.2.2 = true) :
    gdV a b r = true ∧ ((nowV (dlV a b r i).1 (dlV a b r i).2.1).length : Int) = ((nowV a b).length : Int) - 1 := by
  unfold dlV at hk ⊢
  by_cases h : gdV a b r = true
  · rw [if_pos h] at hk ⊢
    obtain ⟨e1, e2, e3⟩ := edV_yes h hk
    rw [e1]
    exact ⟨h, umV_del e3 rfl⟩
  · rw [if_neg h] at hk; simp [noD] at hk
theorem j2_d {c : List Int} (h : Cur c 0 0) {a : List ByteArray} {b r : List S25} (i : Int) (hd : DOk a b r) :
    Evs (fun k => laws_FnEdits.j2 k c (dlV a b r i).2.2.2 false a b r (dlV a b r i).1 (dlV a b r i).2.1 (dlV a b r i).2.2.1 (dlV a b r i).1 (dlV a b r i).2.1 (dlV a b r i).2.2.1) (fun r => r = true) := by
  refine Evs.shift ?_
  simp only [laws_FnEdits.j2]
  refine Evs.no (by decide) (Evs.ite (fun hk => ?_) (fun _ => j3_d h))
  obtain ⟨p0, p1⟩ := dlV_yes hk
  have hf := dlV_d ⟨p0, hd⟩ hk
  refine Evs.eqn (spec_ItemsNow_ev hd) (Evs.eqn (impl_ItemsNow_ev hf.2) (Evs.eqn (spec_ItemsNow_ev hf.2) ?_))
  rw [now_iaV hf.1, now_iaV p0]
  refine Evs.yes rfl (Evs.yes rfl (Evs.yes rfl (Evs.eqn (sameTexts_ev _ (by have := now_len hf.1; simp only []; omega)) (Evs.yes rfl (Evs.yes ?_ (Evs.eqn (impl_IsDesk_ev hf.2) (Evs.yes hf.1 (j3_d h))))))))
  have := now_len p0
  simp only []
  rw [w64_i (by omega) (by omega), p1]
theorem j1_d {c : List Int} (h : Cur c 0 0) : Evs (fun k => laws_FnEdits.j1 k c) (fun r => r = true) := by
  refine Evs.shift ?_
  simp only [laws_FnEdits.j1]
  refine Evs.bind (drawDelete_d h) ?_
  rintro ⟨a, b, r, i⟩ hd
  simp only [] at hd
  refine Evs.eqn (impl_DeleteItem_ev hd i) (Evs.eqn (spec_DeleteItem_ev hd i) ?_)
  exact Evs.yes (by simp) (Evs.eqn (sameDesk_ev _ (dlV_len a b r i)) (j2_d h i hd))
theorem j0_d {c : List Int} (h : Cur c 0 0) (a0 a1 : Int) (a2 a3 : ByteArray) (h2 : a2.size ≤ 9) (h3 : a3.size ≤ 9) :
    Evs (fun k => laws_FnEdits.j0 k c (ivV a0 a1 a2 a3).2.2.2.2 false a0 a1 a2 a3 (ivV a0 a1 a2 a3).1 (ivV a0 a1 a2 a3).2.1 (ivV a0 a1 a2 a3).2.2.1 (ivV a0 a1 a2 a3).2.2.2.1) (fun r => r = true) := by
  refine Evs.shift ?_
  simp only [laws_FnEdits.j0]
  refine Evs.no (by decide) (Evs.ite (fun hk => ?_) (fun _ => j1_d h))
  have hv : deV a0 a1 a2 a3 = true := by
    unfold ivV at hk
    split at hk
    · assumption
    · cases hk
  have e : ivV a0 a1 a2 a3 = (ieKind a0, a1, a3, a2, true) := by unfold ivV; rw [if_pos hv]
  have e2 : ivV (ieKind a0) a1 a3 a2 = (a0, a1, a2, a3, true) := by unfold ivV; rw [if_pos (deV_inv hv), ieKind_twice (deV_kind hv)]
  rw [e]
  refine Evs.eqn (impl_InverseEdit_ev _ _ _ _ (by simp only []; omega) (by simp only []; omega)) ?_
  simp only [e2]
  exact Evs.yes trivial (Evs.yes (by simp) (j1_d h))
theorem ivV_ok (a0 a1 : Int) (a2 a3 : ByteArray) : (ivV a0 a1 a2 a3).2.2.2.2 = deV a0 a1 a2 a3 := by
  unfold ivV
  split
  · rename_i h; rw [h]
  · rename_i h; simpa using h
theorem FnEdits : laws_FnEdits.Pure := by
  rintro x0 x1 ⟨hl0, hb0⟩ ⟨hl1, hb1⟩
  have c0 := cur0 hb0
  have c1 := cur0 hb1
  suffices h : Evs (fun k => laws_FnEdits.f k x0 x1) (fun r => r = true) by
    obtain ⟨b, hb, rfl⟩ := h
    exact Ev.rounds hb
  unfold laws_FnEdits.f
  obtain ⟨b, hb⟩ := big_val (l1 := x1) hl0
  refine Evs.bind (P := fun _ => True) (Evs.val ⟨b, hb, trivial⟩) (fun b _ => Evs.ite (fun _ => Evs.now rfl) (fun _ => ?_))
  refine Evs.bind (drawInverse_d c0) ?_
  rintro ⟨a0, a1, a2, a3⟩ ⟨h2, h3⟩
  simp only [] at h2 h3
  obtain ⟨t, ht1, ht2, ht3⟩ := EditText_same a0 a1 a2 a3 (by omega) (by omega)
  refine Evs.eqn (impl_InverseEdit_ev _ _ _ _ (by simp only []; omega) (by simp only []; omega)) (Evs.eqn (spec_InverseEdit_ev _ _ _ _ (by simp only []; omega) (by simp only []; omega)) (Evs.eqn ht2 (Evs.eqn ht1 ?_)))
  refine Evs.yes (by simp) (Evs.yes (by simp) (Evs.yes (by simp) (Evs.yes rfl ?_)))
  simp only [ht3, ivV_ok, beq_self_eq_true, Bool.not_true]
  have := j0_d c1 a0 a1 a2 a3 h2 h3
  simp only [ivV_ok] at this
  exact this
end Go.Proofs.YtgpkeclojbcgoaaGreatDoor.Pure
