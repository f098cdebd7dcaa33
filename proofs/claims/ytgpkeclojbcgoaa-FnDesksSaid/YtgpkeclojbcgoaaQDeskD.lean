/- What draws of desks come to: desks of lists that are not too large. -/
import Derived.Test.YtgpkeclojbcgoaaPAx2
import Derived.Test.YtgpkeclojbcgoaaPAx1
import Derived.Test.YtgpkeclojbcgoaaPAx3
import Derived.Test.YtgpkeclojbcgoaaQCur
import Derived.Test.YtgpkeclojbcgoaaQDeskU
namespace Go.Proofs.Ytgpkeclojbcgoaa.PA
open Go.RowKit Go.Proofs.YtgpkeclojbcgoaaW.PrintWords Go.Proofs.YtgpkeclojbcgoaaW.PrintLast Go.Proofs.YtgpkeclojbcgoaaW.PrintMore
set_option linter.unusedVariables false
set_option linter.unusedSimpArgs false
theorem gloss_d {c : List Int} {i M : Int} (s : Int) (h : Cur c i M) (hM : M ≤ 100000000000) : Evs (fun _ => spec_l1Cur_gloss.f c i s) (Drew c (M + 2) fun v => v.size ≤ 9) := by
  unfold spec_l1Cur_gloss.f
  refine Evs.bind (of_d (R := fun v => v.size ≤ 9) s h hM _ (by decide) (by decide)) ?_
  rintro ⟨v, c1, i1, s1⟩ ⟨rfl, h1, p⟩
  exact Evs.now ⟨rfl, h1, p⟩
theorem anyGloss_d {c : List Int} {i M : Int} (s : Int) (h : Cur c i M) (hM : M ≤ 10000000000) : Evs (fun _ => spec_l1Cur_anyGloss.f c i s) (Drew c (M + 4) fun v => v.size ≤ 9) := by
  unfold spec_l1Cur_anyGloss.f
  refine Evs.bind (of_d (R := fun v => v.size ≤ 9) s h (by omega) _ (by decide) (by decide)) ?_
  rintro ⟨v, c1, i1, s1⟩ ⟨rfl, h1, p⟩
  refine Evs.bind (of_d (R := fun v => v.size ≤ 9) s1 h1 (by omega) _ (by simp) (fun x hx => ?_)) ?_
  · simp only [List.mem_cons, List.not_mem_nil, or_false] at hx
    rcases hx with rfl | rfl | rfl | rfl | rfl | rfl | rfl <;> first | exact p | decide
  rintro ⟨v2, c2, i2, s2⟩ ⟨rfl, h2, p2⟩
  exact Evs.now ⟨rfl, h2.le (by omega), p2⟩
/-- Items that were drawn. -/
def ItemsR (l : List ByteArray) : Prop := l.length ≤ 21 ∧ ∀ x ∈ l, x.size ≤ 9
theorem items_j2 {c : List Int} {i M : Int} (s : Int) (h : Cur c i M) (hM : M ≤ 1000000000) (l : List ByteArray) (n : Int) (b : Bool) (hn : n ≤ (l.length : Int)) (hb : b = true → 0 < n) (hl : ItemsR l) :
    Evs (fun k => spec_l1Cur_items.j2 k l n b c i s) (Drew c (M + 6) ItemsR) := by
  refine Evs.shift ?_
  simp only [spec_l1Cur_items.j2]
  refine Evs.ite (fun hc => ?_) (fun hc => Evs.now ⟨rfl, h.le (by omega), hl⟩)
  have h0 := hb hc
  refine Evs.bind (pick_d s h (by omega) n) ?_
  rintro ⟨v, c1, i1, s1⟩ ⟨rfl, h1, p1, p2⟩
  have p2 := p2 (by omega)
  simp only [] at p1 p2
  refine Evs.bind (anyGloss_d s1 h1 (by omega)) ?_
  rintro ⟨g, c2, i2, s2⟩ ⟨rfl, h2, q⟩
  refine Evs.yes p1 (Evs.yes (by simp only []; omega) (Evs.now ⟨rfl, h2.le (by omega), by simp only [List.length_set]; exact hl.1, fun x hx => ?_⟩))
  rcases List.mem_or_eq_of_mem_set hx with h3 | rfl
  · exact hl.2 x h3
  · exact q
theorem items_l0 {c : List Int} (n : Int) (hn : n ≤ 21) : ∀ (d : Nat) (l : List ByteArray) (i M s : Int), n - (l.length : Int) ≤ (d : Int) → Cur c i M → M + 2 * (d : Int) ≤ 100000000 → ItemsR l → Evs (fun k => spec_l1Cur_items.l0 k l n c i s) (Drew c (M + 2 * (d : Int) + 8) ItemsR) := by
  intro d
  induction d with
  | zero =>
    intro l i M s hd h hM hl
    refine Evs.shift ?_
    simp only [spec_l1Cur_items.l0]
    refine Evs.no (by omega) (Evs.ite (fun h0 => ?_) (fun h0 => ?_))
    · refine Evs.bind (one_d s h (by omega) 24) ?_
      rintro ⟨b, c1, i1, s1⟩ ⟨rfl, h1, _⟩
      exact (items_j2 s1 h1 (by omega) l n b (by omega) (fun _ => by omega) hl).mono fun r hr => ⟨hr.1, hr.2.1.le (by omega), hr.2.2⟩
    · exact (items_j2 s h (by omega) l n false (by omega) (fun e => by cases e) hl).mono fun r hr => ⟨hr.1, hr.2.1.le (by omega), hr.2.2⟩
  | succ d ih =>
    intro l i M s hd h hM hl
    refine Evs.shift ?_
    simp only [spec_l1Cur_items.l0]
    refine Evs.ite (fun hlt => ?_) (fun hlt => Evs.ite (fun h0 => ?_) (fun h0 => ?_))
    · refine Evs.bind (gloss_d s h (by omega)) ?_
      rintro ⟨g, c1, i1, s1⟩ ⟨rfl, h1, q⟩
      refine Evs.yes (by have := hl.1; omega) ?_
      refine (ih (l ++ [g]) i1 (M + 2) s1 (by simp; omega) h1 (by omega) ⟨by simp; omega, fun x hx => ?_⟩).mono fun r hr => ⟨hr.1, hr.2.1.le (by omega), hr.2.2⟩
      rcases List.mem_append.mp hx with h3 | h3
      · exact hl.2 x h3
      · obtain rfl := List.mem_singleton.mp h3; exact q
    · refine Evs.bind (one_d s h (by omega) 24) ?_
      rintro ⟨b, c1, i1, s1⟩ ⟨rfl, h1, _⟩
      exact (items_j2 s1 h1 (by omega) l n b (by omega) (fun _ => by omega) hl).mono fun r hr => ⟨hr.1, hr.2.1.le (by omega), hr.2.2⟩
    · exact (items_j2 s h (by omega) l n false (by omega) (fun e => by cases e) hl).mono fun r hr => ⟨hr.1, hr.2.1.le (by omega), hr.2.2⟩
theorem items_nil : ItemsR [] := ⟨by simp, fun x hx => by cases hx⟩
theorem items_d {c : List Int} {i M : Int} (s : Int) (h : Cur c i M) (hM : M ≤ 10000000) : Evs (fun k => spec_l1Cur_items.f k c i s) (Drew c (M + 60) ItemsR) := by
  unfold spec_l1Cur_items.f
  refine Evs.bind (pick_d s h (by omega) 5) ?_
  rintro ⟨n, c1, i1, s1⟩ ⟨rfl, h1, p1, p2⟩
  have p2 := p2 (by omega)
  simp only [] at p1 p2
  refine Evs.bind (one_d s1 h1 (by omega) 12) ?_
  rintro ⟨b, c2, i2, s2⟩ ⟨rfl, h2, _⟩
  refine Evs.ite (fun hc => ?_) (fun hc => ?_)
  · refine Evs.bind (pick_d s2 h2 (by omega) 2) ?_
    rintro ⟨m, c3, i3, s3⟩ ⟨rfl, h3, q1, q2⟩
    have q2 := q2 (by omega)
    simp only [] at q1 q2
    simp only []
    rw [cw64 (by omega) (by omega)]
    exact (items_l0 (20 + m) (by omega) 21 [] i3 (M + 2 + 2 + 2) s3 (by simp; omega) h3 (by omega) items_nil).mono fun r hr => ⟨hr.1, hr.2.1.le (by omega), hr.2.2⟩
  · exact (items_l0 n (by omega) 21 [] i2 (M + 2 + 2) s2 (by simp; omega) h2 (by omega) items_nil).mono fun r hr => ⟨hr.1, hr.2.1.le (by omega), hr.2.2⟩
theorem itemPlace_d {c : List Int} {i M : Int} (s : Int) (h : Cur c i M) (hM : M ≤ 10000000) : Evs (fun _ => spec_l1Cur_itemPlace.f c i s) (Drew c (M + 6) fun _ => True) := by
  unfold spec_l1Cur_itemPlace.f
  refine Evs.bind (pick_d s h (by omega) 6) ?_
  rintro ⟨n, c1, i1, s1⟩ ⟨rfl, h1, _⟩
  refine Evs.bind (among_d (R := fun _ => True) s1 h1 (by omega) _ (by simp) (fun _ _ => trivial)) ?_
  rintro ⟨m, c2, i2, s2⟩ ⟨rfl, h2, _⟩
  refine Evs.bind (among_d (R := fun _ => True) s2 h2 (by omega) _ (by simp) (fun _ _ => trivial)) ?_
  rintro ⟨r, c3, i3, s3⟩ ⟨rfl, h3, _⟩
  exact Evs.now ⟨rfl, h3.le (by omega), trivial⟩
/-- An edit that was drawn. -/
def EditR (c : List Int) (M : Int) (r : Int × Int × ByteArray × ByteArray × List Int × Int × Int) : Prop := r.2.2.1.size ≤ 9 ∧ r.2.2.2.1.size ≤ 9 ∧ r.2.2.2.2.1 = c ∧ Cur c r.2.2.2.2.2.1 M
theorem deskEdit_j1 {c : List Int} {i M : Int} (s : Int) (h : Cur c i M) (hM : M ≤ 1000000000) (a0 a1 : Int) (a2 a3 : ByteArray) (h2 : a2.size ≤ 9) (h3 : a3.size ≤ 9) : Evs (fun k => spec_l1Cur_deskEdit.j1 k c i s a0 a1 a2 a3) (EditR c (M + 6)) := by
  refine Evs.shift ?_
  simp only [spec_l1Cur_deskEdit.j1]
  refine Evs.bind (pick_d s h (by omega) 30) ?_
  rintro ⟨n, c1, i1, s1⟩ ⟨rfl, h1, _⟩
  refine Evs.ite (fun _ => ?_) (fun _ => Evs.ite (fun _ => ?_) (fun _ => Evs.ite (fun _ => ?_) (fun _ => Evs.now ⟨h2, h3, rfl, h1.le (by omega)⟩)))
  · refine Evs.bind (among_d (R := fun _ => True) s1 h1 (by omega) _ (by simp) (fun _ _ => trivial)) ?_
    rintro ⟨m, c2, i2, s2⟩ ⟨rfl, h4, _⟩
    exact Evs.now ⟨h2, h3, rfl, h4.le (by omega)⟩
  · refine Evs.bind (among_d (R := fun _ => True) s1 h1 (by omega) _ (by simp) (fun _ _ => trivial)) ?_
    rintro ⟨m, c2, i2, s2⟩ ⟨rfl, h4, _⟩
    exact Evs.now ⟨h2, h3, rfl, h4.le (by omega)⟩
  · refine Evs.bind (anyGloss_d s1 h1 (by omega)) ?_
    rintro ⟨g, c2, i2, s2⟩ ⟨rfl, h4, q⟩
    exact Evs.now ⟨q, h3, rfl, h4.le (by omega)⟩
theorem deskEdit_j0 {c : List Int} {i M : Int} (s : Int) (h : Cur c i M) (hM : M ≤ 100000000) (a0 a1 : Int) (a2 a3 : ByteArray) (h2 : a2.size ≤ 9) (h3 : a3.size ≤ 9) : Evs (fun k => spec_l1Cur_deskEdit.j0 k c i s a0 a1 a2 a3) (EditR c (M + 8)) := by
  refine Evs.shift ?_
  simp only [spec_l1Cur_deskEdit.j0]
  refine Evs.ite (fun _ => ?_) (fun _ => ?_)
  · exact (deskEdit_j1 s h (by omega) a0 a1 a2 a3 h2 h3).mono fun r hr => ⟨hr.1, hr.2.1, hr.2.2.1, hr.2.2.2.le (by omega)⟩
  · refine Evs.bind (gloss_d s h (by omega)) ?_
    rintro ⟨g, c2, i2, s2⟩ ⟨rfl, h4, q⟩
    exact (deskEdit_j1 s2 h4 (by omega) a0 a1 a2 g h2 q).mono fun r hr => ⟨hr.1, hr.2.1, hr.2.2.1, hr.2.2.2.le (by omega)⟩
theorem deskEdit_d {c : List Int} {i M : Int} (s : Int) (h : Cur c i M) (hM : M ≤ 10000000) : Evs (fun k => spec_l1Cur_deskEdit.f k c i s) (EditR c (M + 14)) := by
  unfold spec_l1Cur_deskEdit.f
  refine Evs.bind (pick_d s h (by omega) 3) ?_
  rintro ⟨n, c1, i1, s1⟩ ⟨rfl, h1, _⟩
  refine Evs.bind (among_d (R := fun _ => True) s1 h1 (by omega) _ (by simp) (fun _ _ => trivial)) ?_
  rintro ⟨m, c2, i2, s2⟩ ⟨rfl, h2, _⟩
  refine Evs.ite (fun _ => ?_) (fun _ => ?_)
  · exact (deskEdit_j0 s2 h2 (by omega) _ _ _ _ (by decide) (by decide)).mono fun r hr => ⟨hr.1, hr.2.1, hr.2.2.1, hr.2.2.2.le (by omega)⟩
  · refine Evs.bind (gloss_d s2 h2 (by omega)) ?_
    rintro ⟨g, c3, i3, s3⟩ ⟨rfl, h4, q⟩
    exact (deskEdit_j0 s3 h4 (by omega) _ _ _ _ q (by decide)).mono fun r hr => ⟨hr.1, hr.2.1, hr.2.2.1, hr.2.2.2.le (by omega)⟩
/-- A desk that was drawn. -/
def DeskR (c : List Int) (M : Int) (r : List ByteArray × List S38 × List S38 × List Int × Int × Int) : Prop := DOk r.1 r.2.1 r.2.2.1 ∧ r.2.2.2.1 = c ∧ Cur c r.2.2.2.2.1 M
theorem DeskR.le {c : List Int} {M N : Int} {r : List ByteArray × List S38 × List S38 × List Int × Int × Int} (h : DeskR c M r) (hn : M ≤ N) : DeskR c N r := ⟨h.1, h.2.1, h.2.2.le hn⟩
theorem items_ok {l : List ByteArray} (h : ItemsR l) : l.length ≤ 1048576 ∧ ∀ x ∈ l, x.size ≤ 1048576 := ⟨by have := h.1; omega, fun x hx => by have := h.2 x hx; omega⟩
theorem app_ok {l : List S38} {e : S38} (hl : l.length ≤ 30) (h : ∀ x ∈ l, x.f2.size ≤ 1048576 ∧ x.f3.size ≤ 1048576) (h2 : e.f2.size ≤ 9) (h3 : e.f3.size ≤ 9) : (l ++ [e]).length ≤ 1048576 ∧ ∀ x ∈ l ++ [e], x.f2.size ≤ 1048576 ∧ x.f3.size ≤ 1048576 := by
  refine ⟨by simp; omega, fun x hx => ?_⟩
  rcases List.mem_append.mp hx with h1 | h1
  · exact h x h1
  · obtain rfl := List.mem_singleton.mp h1; omega
theorem desk_end {c : List Int} {i M : Int} (s : Int) (h : Cur c i M) (hM : M ≤ 1000000) {a : List ByteArray} {b r : List S38} (n : Int) (hn : ¬ n > 0) (hd : DeskG a b r) : Evs (fun k => spec_l1Cur_desk.l0 k n c i s a b r) (DeskR c (M + 70)) := by
  have g2 := gdV_small hd.1
  obtain ⟨d1, ⟨d2, d3⟩, d4, d5⟩ := hd.2
  refine Evs.shift ?_
  simp only [spec_l1Cur_desk.l0]
  refine Evs.no hn ?_
  refine Evs.bind (pick_d s h (by omega) 24) ?_
  rintro ⟨v, c1, i1, s1⟩ ⟨rfl, h1, _⟩
  refine Evs.ite (fun _ => ?_) (fun _ => Evs.ite (fun _ => ?_) (fun _ => Evs.ite (fun _ => ?_) (fun _ => Evs.now ⟨hd.2, rfl, h1.le (by omega)⟩)))
  · refine Evs.bind (deskEdit_d s1 h1 (by omega)) ?_
    rintro ⟨e0, e1, e2, e3, c2, i2, s2⟩ ⟨q2, q3, rfl, h2⟩
    exact Evs.yes (by omega) (Evs.now ⟨⟨d1, app_ok (by omega) d3 q2 q3, d4, d5⟩, rfl, h2.le (by omega)⟩)
  · refine Evs.bind (deskEdit_d s1 h1 (by omega)) ?_
    rintro ⟨e0, e1, e2, e3, c2, i2, s2⟩ ⟨q2, q3, rfl, h2⟩
    exact Evs.yes (by omega) (Evs.now ⟨⟨d1, ⟨d2, d3⟩, app_ok (by omega) d5 q2 q3⟩, rfl, h2.le (by omega)⟩)
  · refine Evs.bind (items_d s1 h1 (by omega)) ?_
    rintro ⟨l, c2, i2, s2⟩ ⟨rfl, h2, q⟩
    exact Evs.now ⟨⟨items_ok q, ⟨d2, d3⟩, d4, d5⟩, rfl, h2.le (by omega)⟩
theorem desk_l0 {c : List Int} : ∀ (d : Nat) (n i M s : Int) (a : List ByteArray) (b r : List S38), n ≤ (d : Int) → d ≤ 100 → Cur c i M → M + 8 * (d : Int) ≤ 1000000 → DeskG a b r → Evs (fun k => spec_l1Cur_desk.l0 k n c i s a b r) (DeskR c (M + 8 * (d : Int) + 70)) := by
  intro d
  induction d with
  | zero => intro n i M s a b r hn _ h hM hd; exact (desk_end s h (by omega) n (by omega) hd).mono fun x hx => hx.le (by omega)
  | succ d ih =>
    intro n i M s a b r hn hd1 h hM hd
    by_cases hn0 : n > 0
    · have g1 := gdV_items hd.1
      have hu := umR_len g1 b
      have J : ∀ {i1 M1 s1 : Int} {a1 : List ByteArray} {b1 r1 : List S38}, Cur c i1 M1 → M1 ≤ M + 8 → DeskG a1 b1 r1 → Evs (fun k => spec_l1Cur_desk.l0 k (n - 1) c i1 s1 a1 b1 r1) (DeskR c (M + 8 * ((d + 1 : Nat) : Int) + 70)) :=
        fun hc hm hg => (ih (n - 1) _ (M + 8) _ _ _ _ (by omega) (by omega) (hc.le hm) (by omega) hg).mono fun x hx => hx.le (by omega)
      have hw : wrap64 (n - 1) = n - 1 := cw64 (by omega) (by omega)
      have K : ∀ {i1 M1 s1 : Int} (u : Bool), Cur c i1 M1 → M1 ≤ M + 8 → Evs (fun k => spec_l1Cur_desk.j2 k n false u c i1 s1 a b r a b r) (DeskR c (M + 8 * ((d + 1 : Nat) : Int) + 70)) := by
        intro i1 M1 s1 u hc hm
        refine Evs.shift ?_
        simp only [spec_l1Cur_desk.j2, hw]
        refine Evs.ite (fun _ => ?_) (fun _ => Evs.no (by decide) (J hc hm hd))
        refine Evs.bind (Evs.of (Q := fun x => x = udV a b r) (spec_UndoEdit_ev hd.2) rfl) ?_
        rintro _ rfl
        exact Evs.ite (fun hk => J hc hm (udV_d hd hk)) (fun _ => J hc hm hd)
      refine Evs.shift ?_
      simp only [spec_l1Cur_desk.l0, hw]
      refine Evs.yes hn0 ?_
      refine Evs.bind (Evs.of (Q := fun x => x = (umR (uaV a b)).1) (spec_unNow_ev hd.2 g1) rfl) ?_
      rintro _ rfl
      refine Evs.bind (pick_d s h (by omega) _) ?_
      rintro ⟨p, c1, i1, s1⟩ ⟨rfl, h1, _⟩
      refine Evs.bind (pick_d s1 h1 (by omega) 7) ?_
      rintro ⟨q, c2, i2, s2⟩ ⟨rfl, h2, _⟩
      refine Evs.ite (fun _ => ?_) (fun _ => Evs.ite (fun _ => ?_) (fun _ => Evs.ite (fun _ => ?_) (fun _ => Evs.ite (fun _ => ?_) (fun _ => Evs.ite (fun _ => ?_) (fun _ => Evs.ite (fun _ => ?_) (fun _ => ?_))))))
      · refine Evs.bind (gloss_d s2 h2 (by omega)) ?_
        rintro ⟨g, c3, i3, s3⟩ ⟨rfl, h3, q⟩
        refine Evs.bind (Evs.of (Q := fun x => x = inV a b r p g) (spec_InsertItem_ev hd.2 _ _ (by have h9 : g.size ≤ 9 := q; show g.size ≤ 1048576; omega)) rfl) ?_
        rintro _ rfl
        exact Evs.ite (fun hk => J h3 (by omega) (inV_d hd (by have h9 : g.size ≤ 9 := q; show g.size ≤ 1048576; omega) hk)) (fun _ => J h3 (by omega) hd)
      · refine Evs.bind (gloss_d s2 h2 (by omega)) ?_
        rintro ⟨g, c3, i3, s3⟩ ⟨rfl, h3, q⟩
        refine Evs.bind (Evs.of (Q := fun x => x = inV a b r p g) (spec_InsertItem_ev hd.2 _ _ (by have h9 : g.size ≤ 9 := q; show g.size ≤ 1048576; omega)) rfl) ?_
        rintro _ rfl
        exact Evs.ite (fun hk => J h3 (by omega) (inV_d hd (by have h9 : g.size ≤ 9 := q; show g.size ≤ 1048576; omega) hk)) (fun _ => J h3 (by omega) hd)
      · refine Evs.bind (Evs.of (Q := fun x => x = dlV a b r p) (spec_DeleteItem_ev hd.2 _) rfl) ?_
        rintro _ rfl
        exact Evs.ite (fun hk => J h2 (by omega) (dlV_d hd hk)) (fun _ => J h2 (by omega) hd)
      · refine Evs.bind (gloss_d s2 h2 (by omega)) ?_
        rintro ⟨g, c3, i3, s3⟩ ⟨rfl, h3, q⟩
        refine Evs.bind (Evs.of (Q := fun x => x = rpV a b r p g) (spec_ReplaceItem_ev hd.2 _ _ (by have h9 : g.size ≤ 9 := q; show g.size ≤ 1048576; omega)) rfl) ?_
        rintro _ rfl
        exact Evs.ite (fun hk => J h3 (by omega) (rpV_d hd (by have h9 : g.size ≤ 9 := q; show g.size ≤ 1048576; omega) hk)) (fun _ => J h3 (by omega) hd)
      · refine Evs.ite (fun _ => K true h2 (by omega)) (fun _ => ?_)
        refine Evs.bind (one_d s2 h2 (by omega) 8) ?_
        rintro ⟨u, c3, i3, s3⟩ ⟨rfl, h3, _⟩
        exact K u h3 (by omega)
      · refine Evs.ite (fun _ => K true h2 (by omega)) (fun _ => ?_)
        refine Evs.bind (one_d s2 h2 (by omega) 8) ?_
        rintro ⟨u, c3, i3, s3⟩ ⟨rfl, h3, _⟩
        exact K u h3 (by omega)
      · refine Evs.bind (Evs.of (Q := fun x => x = rdV a b r) (spec_RedoEdit_ev hd.2) rfl) ?_
        rintro _ rfl
        exact Evs.ite (fun hk => J h2 (by omega) (rdV_d hd hk)) (fun _ => J h2 (by omega) hd)
    · exact (desk_end s h (by omega) n hn0 hd).mono fun x hx => hx.le (by omega)
theorem start_good {l : List ByteArray} (h : itOK l = true) (hl : ItemsR l) : DeskG l [] [] :=
  ⟨gdV_parts.mpr ⟨h, by simp, l, rfl⟩, items_ok hl, ⟨by simp, fun x hx => by cases hx⟩, by simp, fun x hx => by cases hx⟩
theorem desk_d {c : List Int} {i M : Int} (s : Int) (h : Cur c i M) (hM : M ≤ 10000) : Evs (fun k => spec_l1Cur_desk.f k c i s) (DeskR c (M + 1000)) := by
  unfold spec_l1Cur_desk.f
  refine Evs.bind (items_d s h (by omega)) ?_
  rintro ⟨l, c1, i1, s1⟩ ⟨rfl, h1, hl⟩
  refine Evs.bind (Evs.of (Q := fun x => x = sdV l) (spec_StartDesk_ev l (items_ok hl).1 (items_ok hl).2) rfl) ?_
  rintro _ rfl
  refine Evs.ite (fun hk => ?_) (fun hk => ?_)
  · have hi : itOK l = true := by
      cases hc : itOK l with
      | true => rfl
      | false => simp [sdV, hc] at hk
    have e : sdV l = (l, [], [], true) := by simp [sdV, hi]
    simp only [e]
    refine Evs.bind (pick_d s1 h1 (by omega) 10) ?_
    rintro ⟨n, c2, i2, s2⟩ ⟨rfl, h2, p1, p2⟩
    have p2 := p2 (by omega)
    simp only [] at p1 p2
    refine Evs.bind (one_d s2 h2 (by omega) 12) ?_
    rintro ⟨b, c3, i3, s3⟩ ⟨rfl, h3, _⟩
    refine Evs.ite (fun _ => ?_) (fun _ => ?_)
    · exact (desk_l0 60 60 i3 (M + 60 + 2 + 2) s3 l [] [] (by omega) (by omega) h3 (by omega) (start_good hi hl)).mono fun x hx => hx.le (by omega)
    · exact (desk_l0 60 n i3 (M + 60 + 2 + 2) s3 l [] [] (by omega) (by omega) h3 (by omega) (start_good hi hl)).mono fun x hx => hx.le (by omega)
  · refine Evs.now ⟨⟨⟨by simp, fun x hx => ?_⟩, ⟨by simp, fun x hx => by cases hx⟩, by simp, fun x hx => by cases hx⟩, rfl, h1.le (by omega)⟩
    obtain rfl := List.mem_singleton.mp hx
    decide
end Go.Proofs.Ytgpkeclojbcgoaa.PA
