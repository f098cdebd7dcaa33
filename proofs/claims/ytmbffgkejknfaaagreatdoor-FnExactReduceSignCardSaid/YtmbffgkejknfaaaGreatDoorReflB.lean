/- A pure interpreter of the code, and that the machine does what it tells (a text of this session). -/
import Derived.Test.YtmbffgkejknfaaaGreatDoorReflA
set_option autoImplicit false
set_option linter.unusedVariables false
set_option linter.unusedSimpArgs false
namespace Go.Refl
open Go.RowKit

section
variable {Γ : Ctx} {P : Program} {base : Nat} {S : Nat → Nat → Prop} {w0 : World}

def mvTok (μ : Mp) (d : Nat) (t : Option (Nat × Nat)) (nv : Option (Nat × Nat)) : Mp :=
 ⟨μ.ρ, fun d' j' => bif d.beq d' then (bif j'.beq 0 then nv else none) else (bif hitTok t d' j' then none else μ.τ d' j')⟩

theorem mv_tok {μ : Mp} {d : Nat} {t nv : Option (Nat × Nat)} {d' j' : Nat} (h : pE (some d) (.app t : Eff Γ) d' j' = false) : (mvTok μ d t nv).τ d' j' = μ.τ d' j' := by
 simp only [pE, isTok, Bool.or_eq_false_iff] at h
 simp only [mvTok, h.1, h.2, cond_false]

theorem mv_new {μ : Mp} {d : Nat} {t nv : Option (Nat × Nat)} : (mvTok μ d t nv).τ d 0 = nv := by
 have e1 : d.beq d = true := Nat.beq_refl d
 simp [mvTok, e1]

theorem mv_cases {μ : Mp} {d : Nat} {t nv : Option (Nat × Nat)} {d' j' : Nat} {v : Nat × Nat} (h : (mvTok μ d t nv).τ d' j' = some v) :
  (d' = d ∧ j' = 0 ∧ nv = some v) ∨ (pE (some d) (.app t : Eff Γ) d' j' = false ∧ μ.τ d' j' = some v) := by
 simp only [mvTok] at h
 cases hd : d.beq d' with
 | true =>
  simp only [hd, cond_true] at h
  cases hj : j'.beq 0 with
  | true =>
   simp only [hj, cond_true] at h
   exact .inl ⟨(Nat.eq_of_beq_eq_true hd).symm, Nat.eq_of_beq_eq_true hj, h⟩
  | false => simp [hj] at h
 | false =>
  simp only [hd, cond_false] at h
  cases ht : hitTok t d' j' with
  | true => simp [ht] at h
  | false =>
   simp only [ht, cond_false] at h
   exact .inr ⟨by simp only [pE, isTok, hd, ht]; rfl, h⟩

structure AppW (base : Nat) (μ : Mp) (w w' : World) (d : Nat) (t nv : Option (Nat × Nat)) : Prop where
 size : w.heap.size ≤ w'.heap.size
 below : Below base w w'
 cell : ∀ b o, b < w.heap.size → Stable base μ b o → w'.cell? ⟨b, o, none⟩ = w.cell? ⟨b, o, none⟩
 box : ∀ s g, μ.ρ s = some g → w'.heap[g]? = w.heap[g]?
 tok : ∀ d' j' g u, (pE (Γ := Γ) (some d) (.app t) d' j') = false → μ.τ d' j' = some (g, u) → w'.heap[g]? = w.heap[g]?
 nv : ∀ g u, nv = some (g, u) → base ≤ g ∧ g < w'.heap.size ∧ (∀ s, μ.ρ s ≠ some g) ∧ (∀ d' j' u', pE (Γ := Γ) (some d) (.app t) d' j' = false → μ.τ d' j' ≠ some (g, u')) ∧ (∀ b o, b < w.heap.size → Stable base μ b o → b = g → o < u)

theorem AppW.stab {μ : Mp} {w w' : World} {d : Nat} {t nv : Option (Nat × Nat)} (H : AppW (Γ := Γ) base μ w w' d t nv) : ∀ b o, b < w.heap.size → Stable base μ b o → Stable base (mvTok μ d t nv) b o := by
 intro b o hb h hle
 obtain ⟨h1, h2⟩ := h hle
 refine ⟨h1, fun d' j' u hu => ?_⟩
 rcases mv_cases (Γ := Γ) hu with ⟨_, _, e⟩ | ⟨_, e⟩
 ·exact (H.nv b u e).2.2.2.2 b o hb h rfl
 ·exact h2 d' j' u e

theorem AppW.ext {μ : Mp} {w w' : World} {d : Nat} {t nv : Option (Nat × Nat)} (H : AppW (Γ := Γ) base μ w w' d t nv) : Ext base (pE (some d) (.app t : Eff Γ)) no1 no1 μ w (mvTok μ d t nv) w' :=
 ⟨H.size, H.cell, H.stab, fun _ _ _ h => h, fun s g _ _ h => H.box s g h, fun d' j' v hp h => by rw [mv_tok hp]; exact h, fun d' j' g u hp h => H.tok d' j' g u hp h⟩

theorem AppW.maps {μ : Mp} {w w' : World} {d : Nat} {t nv : Option (Nat × Nat)} (H : AppW (Γ := Γ) base μ w w' d t nv) (hm : MapsOK base μ w) : MapsOK base (mvTok μ d t nv) w' where
 ρinj := hm.ρinj
 ρnew s g h := ⟨(hm.ρnew s g h).1, Nat.lt_of_lt_of_le (hm.ρnew s g h).2 H.size⟩
 τnew d' j' g u h := by
  rcases mv_cases (Γ := Γ) h with ⟨_, _, e⟩ | ⟨_, e⟩
  ·obtain ⟨h1, h2, h3, _⟩ := H.nv g u e; exact ⟨h1, h2, h3⟩
  ·obtain ⟨h1, h2, h3⟩ := hm.τnew d' j' g u e; exact ⟨h1, Nat.lt_of_lt_of_le h2 H.size, h3⟩
 τinj d' j' d'' j'' g u u' h h' := by
  rcases mv_cases (Γ := Γ) h with ⟨e1, e2, e⟩ | ⟨hp, e⟩ <;> rcases mv_cases (Γ := Γ) h' with ⟨e1', e2', e'⟩ | ⟨hp', e'⟩
  ·exact ⟨e1.trans e1'.symm, e2.trans e2'.symm⟩
  ·exact absurd e' ((H.nv g u e).2.2.2.1 _ _ _ hp')
  ·exact absurd e ((H.nv g u' e').2.2.2.1 _ _ _ hp)
  ·exact hm.τinj _ _ _ _ _ _ _ e e'

theorem own_cases {μ : Mp} {w : World} {e sz n c : Nat} {A : Option Addr} {o : Own} {t : Option (Nat × Nat)} (ht : tokO o = some t) (h : OwnRep base μ w e sz A n c o) :
  n = c ∨ ∃ d j g cur, t = some (d, j) ∧ A = some ⟨g, 0, none⟩ ∧ base ≤ g ∧ μ.τ d j = some (g, n * sz) ∧ w.heap[g]? = some (.cells cur e (0, 0)) ∧ c ≤ maxLen ∧ cur.size = c * sz := by
 cases o with
 | ro => cases ht
 | full => exact .inl h
 | tok d j =>
  rcases h with h | ⟨g, cur, h⟩
  ·exact .inl h
  ·cases ht; exact .inr ⟨d, j, g, cur, rfl, h⟩

theorem flat_length {α : Type} (K : RK α) : ∀ xs : List α, (xs.flatMap K.enc).length = xs.length * K.sz
 | [] => by simp
 | x :: xs => by simp [flat_length K xs, K.len, Nat.succ_mul, Nat.add_comm]

theorem flat_one {α : Type} (K : RK α) (xs : List α) : ∀ v ∈ xs.flatMap K.enc, v.oneCell' = true := by
 intro v hv
 obtain ⟨x, _, h⟩ := List.mem_flatMap.1 hv
 exact K.one x v h

theorem app_run {α : Type} (K : RK α) {t e bytes : Nat} {i : TypeInfo} {z : Value} (hu : P.underlying t = some (.slice e)) (hi : P.info? e = some i) (hz : i.zero = some z) (hsz : i.size = K.sz) (hby : i.bytes = bytes) (hzs : z.cells.size = i.size) (hb0 : 0 < bytes)
  {μ : Mp} {w : World} (hm : MapsOK base μ w) (hle : base ≤ w.heap.size) {xs ys : List α} {o o' : Own} {tk : Option (Nat × Nat)} (ht : tokO o = some tk) {x y : Value} (hx : RowRep base S μ w K e xs o x) (hy : RowRep base S μ w K e ys o' y)
  (hb : (xs.length + ys.length) * bytes ≤ 140737488355328) (d ty : Nat) :
  ∃ v w' nv, (Builtin.append_ #[t, t] ty #[x, y]).run P w = .ok v w' ∧ AppW (Γ := Γ) base μ w w' d tk nv ∧ RowRep base S (mvTok μ d tk nv) w' K e (xs ++ ys) (.tok d 0) v := by
 obtain ⟨A, c, rfl, hl1, hl2, hrd, hown⟩ := hx
 obtain ⟨A2, c2, rfl, hl3, hl4, hrd2, hown2⟩ := hy
 have hn63 : xs.length + ys.length ≤ 140737488355328 := Nat.le_trans (Nat.le_mul_of_pos_right _ hb0) hb
 have hpos := K.pos
 have hcases := own_cases ht hown
 rcases Nat.eq_zero_or_pos ys.length with hm0 | hm0
 ·-- nothing is appended
  have hys : ys = [] := List.eq_nil_of_length_eq_zero hm0
  subst hys
  have hr : (Builtin.append_ #[t, t] ty #[.slice A xs.length c, .slice A2 0 c2]).run P w = .ok (.slice A xs.length c) w := by
   have e1 : (Builtin.firstCells i.size 0 (.slice A2 0 c2)).run P w = .ok #[] w := by
    cases A2 <;> simp [Builtin.firstCells, loadCells, loadCellsFrom]
   cases A <;> simp [Builtin.append_, run_underlying hu, sizeOf, typeInfo, hi, Builtin.lenOf, hl1, e1, storeCells, Result.andThen]
  have nvx : ∃ nv : Option (Nat × Nat), (xs.length = c ∧ nv = none) ∨ (∃ dd j g cur, tk = some (dd, j) ∧ A = some ⟨g, 0, none⟩ ∧ base ≤ g ∧ μ.τ dd j = some (g, xs.length * K.sz) ∧ w.heap[g]? = some (.cells cur e (0, 0)) ∧ c ≤ maxLen ∧ cur.size = c * K.sz ∧ nv = some (g, xs.length * K.sz)) := by
   rcases hcases with h | ⟨dd, j, g, cur, h1, h2, h3, h4, h5, h6, h7⟩
   ·exact ⟨none, .inl ⟨h, rfl⟩⟩
   ·exact ⟨_, .inr ⟨dd, j, g, cur, h1, h2, h3, h4, h5, h6, h7, rfl⟩⟩
  obtain ⟨nv, hnv⟩ := nvx
  have H : AppW (Γ := Γ) base μ w w d tk nv := by
   refine ⟨Nat.le_refl _, Below.refl _ _, fun _ _ _ _ => rfl, fun _ _ _ => rfl, fun _ _ _ _ _ _ => rfl, fun g u e => ?_⟩
   rcases hnv with ⟨_, rfl⟩ | ⟨dd, j, g', cur, h1, h2, h3, h4, h5, h6, h7, rfl⟩
   ·cases e
   ·cases e
    obtain ⟨f1, f2, f3⟩ := hm.τnew dd j g _ h4
    refine ⟨f1, f2, f3, fun d' j' u' hp he => ?_, fun b oo _ hs e => ?_⟩
    ·obtain ⟨rfl, rfl⟩ := hm.τinj _ _ _ _ _ _ _ he h4
     subst h1
     have : sameTok (d', j') d' j' = true := by simp [sameTok, Nat.beq_refl]
     simp [pE, hitTok, this] at hp
    ·subst e; exact (hs f1).2 dd j _ h4
  refine ⟨_, w, nv, hr, H, A, c, by simp, by simpa using hl1, hl2, fun hn => ?_, ?_⟩
  ·rw [List.append_nil] at hn
   obtain ⟨b, off, rfl, hc⟩ := hrd hn
   refine ⟨b, off, rfl, fun j v hj => ?_⟩
   rw [List.append_nil] at hj
   obtain ⟨f1, f2, f3⟩ := hc j v hj
   exact ⟨f1, H.stab b _ (lt_of_cell f1) f2, f3⟩
  ·rcases hnv with ⟨h, _⟩ | ⟨dd, j, g', cur, h1, h2, h3, h4, h5, h6, h7, rfl⟩
   ·exact .inl (by simpa using h)
   ·exact .inr ⟨g', cur, h2, h3, by rw [mv_new]; simp, h5, h6, h7⟩
 ·-- the new elements are read
  obtain ⟨b2, off2, rfl, hc2⟩ := hrd2 hm0
  have hnews : ∀ j v, (ys.flatMap K.enc)[j]? = some v → w.cell? ((⟨b2, off2, none⟩ : Addr).add j) = some v := fun j v hj => by rw [add_plain']; exact (hc2 j v hj).1
  have hnl : (ys.flatMap K.enc).length = ys.length * i.size := by rw [flat_length, hsz]
  have holds : ∀ (ad : Addr), A = some ad → ∀ j v, (xs.flatMap K.enc)[j]? = some v → w.cell? (ad.add j) = some v := fun ad e j v hj => by
   have : 0 < xs.length := by
    rcases Nat.eq_zero_or_pos xs.length with h | h
    ·have : xs = [] := List.eq_nil_of_length_eq_zero h
     subst this; simp at hj
    ·exact h
   obtain ⟨b, off, e', hc⟩ := hrd this
   rw [e] at e'; injection e' with e'; subst e'
   rw [add_plain']; exact (hc j v hj).1
  have hol : (xs.flatMap K.enc).length = xs.length * i.size := by rw [flat_length, hsz]
  have grown : ∀ old : Nat, old < xs.length + ys.length → ∀ w' : World, w' = w.drew.alloc (.cells ((xs.flatMap K.enc).toArray ++ (ys.flatMap K.enc).toArray ++ Builtin.zeroCells z.cells (grownCap w (xs.length + ys.length) old e - (xs.length + ys.length))) e) →
    ∃ nv, AppW (Γ := Γ) base μ w w' d tk nv ∧ RowRep base S (mvTok μ d tk nv) w' K e (xs ++ ys) (.tok d 0) (.slice (some ⟨w.heap.size, 0, none⟩) (xs.length + ys.length) (grownCap w (xs.length + ys.length) old e)) := by
   rintro old ho w' rfl
   have hge := grownCap_ge w (xs.length + ys.length) old e
   have hcm : grownCap w (xs.length + ys.length) old e ≤ maxLen := grownCap_le_maxLen w _ old e (by simp only [maxLen]; omega)
   have hB : Below w.heap.size w (w.drew.alloc (.cells ((xs.flatMap K.enc).toArray ++ (ys.flatMap K.enc).toArray ++ Builtin.zeroCells z.cells (grownCap w (xs.length + ys.length) old e - (xs.length + ys.length))) e)) :=
    (Below.refl _ _).drew.alloc (Nat.le_refl _) _
   have H : AppW (Γ := Γ) base μ w (w.drew.alloc (.cells ((xs.flatMap K.enc).toArray ++ (ys.flatMap K.enc).toArray ++ Builtin.zeroCells z.cells (grownCap w (xs.length + ys.length) old e - (xs.length + ys.length))) e)) d tk (some (w.heap.size, (xs.length + ys.length) * K.sz)) := by
    refine ⟨hB.size, hB.mono hle, fun b o hb _ => hB.cell (p := ⟨b, o, none⟩) hb, fun s g h => hB.block g (hm.ρnew s g h).2, fun d' j' g u _ h => hB.block g (hm.τnew d' j' g u h).2.1, fun g u e => ?_⟩
    cases e
    exact ⟨hle, by simp, fun s hs => by have := (hm.ρnew s _ hs).2; omega, fun d' j' u' _ h => by have := (hm.τnew d' j' _ u' h).2.1; omega, fun b o hb _ e => by omega⟩
   refine ⟨_, H, some ⟨w.heap.size, 0, none⟩, grownCap w (xs.length + ys.length) old e, by simp, by simpa using hge, hcm, fun _ => ⟨w.heap.size, 0, rfl, fun j v hj => ⟨?_, ?_, fun h => by omega⟩⟩, .inr ⟨w.heap.size, _, rfl, hle, by rw [mv_new]; simp, heap_alloc_new w.drew _, hcm, ?_⟩⟩
   ·rw [Nat.zero_add]
    have h1 : (w.drew.alloc (.cells ((xs.flatMap K.enc).toArray ++ (ys.flatMap K.enc).toArray ++ Builtin.zeroCells z.cells (grownCap w (xs.length + ys.length) old e - (xs.length + ys.length))) e)).cell? ⟨w.heap.size, j, none⟩ = _ := World.cell?_alloc_new w.drew _ _ j
    rw [h1]
    rw [List.flatMap_append] at hj
    have hjl := (List.getElem?_eq_some_iff.1 hj).1
    rw [Array.getElem?_append_left (by simpa using hjl)]
    simpa using hj
   ·intro _
    refine ⟨fun s hs => by have := (hm.ρnew s _ hs).2; omega, fun d' j' u hu => ?_⟩
    rcases mv_cases (Γ := Γ) hu with ⟨_, _, e⟩ | ⟨_, e⟩
    ·cases e
     have hjl := (List.getElem?_eq_some_iff.1 hj).1
     rw [flat_length, List.length_append] at hjl
     omega
    ·have := (hm.τnew d' j' _ u e).2.1; omega
   ·simp only [Array.size_append, List.size_toArray, size_zeroCells, hzs, hsz, flat_length, ← Nat.add_mul]
    congr 1
    omega
  have viaGrow : c < xs.length + ys.length → ∃ v w' nv, (Builtin.append_ #[t, t] ty #[.slice A xs.length c, .slice (some ⟨b2, off2, none⟩) ys.length c2]).run P w = .ok v w' ∧ AppW (Γ := Γ) base μ w w' d tk nv ∧ RowRep base S (mvTok μ d tk nv) w' K e (xs ++ ys) (.tok d 0) v := by
   intro hlt
   cases A with
   | none =>
    have hx0 : xs.length = 0 := by
     rcases Nat.eq_zero_or_pos xs.length with h | h
     ·exact h
     ·obtain ⟨b, off, e, _⟩ := hrd h; cases e
    have hc0 : c = 0 := by
     rcases hcases with h | ⟨_, _, g, _, _, h, _⟩
     ·omega
     ·cases h
    have hxs : xs = [] := List.eq_nil_of_length_eq_zero hx0
    subst hxs
    subst hc0
    have hr := run_append_nil (P := P) w t ty e i z hu hi hz ⟨b2, off2, none⟩ ys.length c2 (ys.flatMap K.enc) hnl hnews hm0 (by simp at hn63; omega) (by rw [hby]; simp at hb; omega)
    obtain ⟨nv, H1, H2⟩ := grown 0 (by simpa using hm0) _ rfl
    simp only [List.flatMap_nil, List.length_nil, Nat.zero_add, Array.empty_append, List.nil_append] at H1 H2
    exact ⟨_, _, nv, hr, H1, H2⟩
   | some ad =>
    have hr := run_append_grow (P := P) w t ty e i z hu hi hz ad xs.length c (xs.flatMap K.enc) hol (holds ad rfl) ⟨b2, off2, none⟩ ys.length c2 (ys.flatMap K.enc) hnl hnews hlt (by omega) (growslice_fits hlt (by rw [hby]; exact hb))
    obtain ⟨nv, H1, H2⟩ := grown c hlt _ rfl
    exact ⟨_, _, nv, hr, H1, H2⟩
  rcases Nat.lt_or_ge c (xs.length + ys.length) with hlt | hroom
  ·exact viaGrow hlt
  ·rcases hcases with h | ⟨dd, j, g, cur, rfl, rfl, h3, h4, h5, h6, h7⟩
   ·omega
   ·-- in place
    have hfit : xs.length * i.size + (ys.flatMap K.enc).length ≤ cur.size := by rw [hnl, h7, hsz, ← Nat.add_mul]; exact Nat.mul_le_mul_right _ hroom
    have hr := run_append_room (P := P) w t ty e i hu hi g xs.length c cur h5 ⟨b2, off2, none⟩ ys.length c2 (ys.flatMap K.enc) hnl hnews (flat_one K ys) hroom hfit
    obtain ⟨f1, f2, f3⟩ := hm.τnew dd j g _ h4
    have hcell : ∀ o, o < xs.length * K.sz → (w.setRow g (cur.toList.take (xs.length * i.size) ++ ys.flatMap K.enc ++ cur.toList.drop (xs.length * i.size + (ys.flatMap K.enc).length)).toArray).cell? ⟨g, o, none⟩ = w.cell? ⟨g, o, none⟩ := by
     intro oo ho
     rw [cell_setRow_same w g oo cur _ e (0, 0) h5, cell_of_row w g oo cur e (0, 0) h5]
     have hlc : xs.length * K.sz ≤ c * K.sz := Nat.mul_le_mul_right _ (by omega)
     have hcl : cur.toList.length = c * K.sz := by rw [← h7]; simp
     rw [hsz, List.append_assoc]
     simp only [List.getElem?_toArray]
     rw [List.getElem?_append_left (by rw [List.length_take, hcl]; exact Nat.lt_min.2 ⟨ho, Nat.lt_of_lt_of_le ho hlc⟩), List.getElem?_take, if_pos ho]
     simp
    have H : AppW (Γ := Γ) base μ w (w.setRow g (cur.toList.take (xs.length * i.size) ++ ys.flatMap K.enc ++ cur.toList.drop (xs.length * i.size + (ys.flatMap K.enc).length)).toArray) d (some (dd, j)) (some (g, (xs.length + ys.length) * K.sz)) := by
     refine ⟨by simp, ⟨rfl, rfl, rfl, by simp, fun k hk => setRow_other w g k _ fun e => by omega⟩, fun b oo hb hs => ?_, fun s g' h => setRow_other w g g' _ fun e => f3 s (by rw [h, e]), fun d' j' g' u hp h => setRow_other w g g' _ fun e => ?_, fun g' u e => ?_⟩
     ·by_cases e : b = g
      ·subst e
       exact hcell oo ((hs f1).2 dd j _ h4)
      ·exact setRow_cell e
     ·subst e
      obtain ⟨rfl, rfl⟩ := hm.τinj _ _ _ _ _ _ _ h h4
      have : sameTok (d', j') d' j' = true := by simp [sameTok, Nat.beq_refl]
      simp [pE, hitTok, this] at hp
     ·cases e
      refine ⟨f1, by simpa using f2, f3, fun d' j' u' hp h => ?_, fun b oo hb hs e => ?_⟩
      ·obtain ⟨rfl, rfl⟩ := hm.τinj _ _ _ _ _ _ _ h h4
       have : sameTok (d', j') d' j' = true := by simp [sameTok, Nat.beq_refl]
       simp [pE, hitTok, this] at hp
      ·subst e
       have := (hs f1).2 dd j _ h4
       rw [Nat.add_mul]; omega
    refine ⟨_, _, _, hr, H, some ⟨g, 0, none⟩, c, by simp, by simpa using hroom, hl2, fun _ => ⟨g, 0, rfl, fun jj v hj => ⟨?_, ?_, fun h => by omega⟩⟩, .inr ⟨g, _, rfl, h3, by rw [mv_new]; simp, setRow_heap w g cur _ e _ h5, h6, ?_⟩⟩
    ·rw [Nat.zero_add]
     rw [List.flatMap_append] at hj
     rw [cell_setRow_same w g jj cur _ e (0, 0) h5]
     have htake : cur.toList.take (xs.length * i.size) = xs.flatMap K.enc := by
      apply List.ext_getElem?
      intro q
      rw [List.getElem?_take]
      by_cases hq : q < xs.length * i.size
      ·rw [if_pos hq]
       have hq' : q < (xs.flatMap K.enc).length := by rw [hol]; exact hq
       have := holds ⟨g, 0, none⟩ rfl q _ (List.getElem?_eq_getElem hq')
       rw [add_plain', Nat.zero_add, cell_of_row w g q cur e (0, 0) h5] at this
       rw [List.getElem?_eq_getElem hq', ← this]
       simp
      ·rw [if_neg hq, List.getElem?_eq_none (by rw [hol]; omega)]
     rw [htake]
     have hjl := (List.getElem?_eq_some_iff.1 hj).1
     simp only [List.getElem?_toArray]
     rw [List.getElem?_append_left hjl]
     exact hj
    ·intro _
     refine ⟨f3, fun d' j' u hu => ?_⟩
     rcases mv_cases (Γ := Γ) hu with ⟨_, _, e⟩ | ⟨hp, e⟩
     ·cases e
      have hjl := (List.getElem?_eq_some_iff.1 hj).1
      rw [flat_length, List.length_append] at hjl
      omega
     ·obtain ⟨rfl, rfl⟩ := hm.τinj _ _ _ _ _ _ _ e h4
      have : sameTok (d', j') d' j' = true := by simp [sameTok, Nat.beq_refl]
      simp [pE, hitTok, this] at hp
    ·simp only [List.size_toArray, List.length_append, List.length_take, List.length_drop, Array.length_toList]
     rw [← h7]
     omega

end

section
variable {Γ : Ctx} {P : Program} {base : Nat} {S : Nat → Nat → Prop} {w0 : World}

def μ0 : Mp := ⟨fun _ => none, fun _ _ => none⟩

def AVsRep (base : Nat) (S : Nat → Nat → Prop) (μ : Mp) (w : World) : List (AV Γ) → List Value → Prop
 | [], [] => True
 | a :: as, y :: ys => AVRep base S μ w a y ∧ AVsRep base S μ w as ys
 | _, _ => False

def resVal : RC → List Value → Value
 | .one _, ys => ys.headD undef
 | .tup _, ys => .tuple ys.toArray

def ResOK (Γ : Ctx) (S : Nat → Nat → Prop) (w w' : World) (rc : RC) (y : PT Γ rc.ls) (v : Value) : Prop :=
 ∃ (μ : Mp) (avs : List (AV Γ)) (ys : List Value) (cs : List (Cell Γ)), MapsOK w.heap.size μ w' ∧ AVsRep w.heap.size S μ w' avs ys ∧ argCells rc.vcs avs = some cs ∧ toksOK rc.ls cs [] = true ∧ decLeaves rc.ls cs = some y ∧ v = resVal rc ys

structure EntOK (P : Program) (e : Ent Γ) : Prop where
 res : e.res.ok = true
 fn : ∃ fn, P.funcs[e.f]? = some fn ∧ (fn.name == "runtime.NumGoroutine") = false ∧ fn.body.isNone = false
 calls : ∀ (S : Nat → Nat → Prop) (w : World) (avs : List (AV Γ)) (vals : List Value) (cs : List (Cell Γ)) (x : PT Γ (e.args.flatMap VC.ls)) (y : PT Γ e.res.ls), argCells e.args avs = some cs → decLeaves (e.args.flatMap VC.ls) cs = some x → e.fn x = some y →
  AVsRep w.heap.size S μ0 w avs vals → Calls P e.f vals.toArray w fun en w' => ∃ v, en = .returned v ∧ Below w.heap.size w w' ∧ ResOK Γ S w w' e.res y v


def viewS (base : Nat) (S : Nat → Nat → Prop) (μ : Mp) (b o : Nat) : Prop := (b < base → S b o) ∧ Stable base μ b o

theorem stable0 {n b o : Nat} : Stable n μ0 b o := fun _ => ⟨fun s h => (by cases h), fun d j u h => (by cases h)⟩

theorem CellRep.view {μ : Mp} {w : World} {c : Cell Γ} {y : Value} (h : CellRep base S μ w c y) : CellRep w.heap.size (viewS base S μ) μ0 w (roCell (fun _ _ => true) c) y := by
 have key : ∀ (e : Nat) (xs : List (Γ.kd e).α) (o o' : Own), (∀ A c, OwnRep base μ w e (Γ.kd e).K.sz A xs.length c o → OwnRep w.heap.size μ0 w e (Γ.kd e).K.sz A xs.length c o') → RowRep base S μ w (Γ.kd e).K e xs o y → RowRep w.heap.size (viewS base S μ) μ0 w (Γ.kd e).K e xs o' y := by
  rintro e xs o o' ho ⟨A, c, rfl, h1, h2, h3, h4⟩
  refine ⟨A, c, rfl, h1, h2, fun hn => ?_, ho A c h4⟩
  obtain ⟨b, off, rfl, hc⟩ := h3 hn
  refine ⟨b, off, rfl, fun j v hj => ?_⟩
  obtain ⟨f1, f2, f3⟩ := hc j v hj
  exact ⟨f1, stable0, fun _ => ⟨f3, f2⟩⟩
 cases c with
 | u => trivial
 | v x => exact h
 | bb b q i hh => exact h
 | nb b q i hh => exact h
 | row e xs o =>
  cases o with
  | ro => exact key e xs .ro .ro (fun _ _ _ => trivial) h
  | full => exact key e xs .full .full (fun _ _ h => h) h
  | tok d j => exact key e xs (.tok d j) .ro (fun _ _ _ => trivial) h

theorem CellsRep.view {μ : Mp} {w : World} : ∀ {cs : List (Cell Γ)} {vs : List Value}, CellsRep base S μ w cs vs → CellsRep w.heap.size (viewS base S μ) μ0 w (cs.map (roCell fun _ _ => true)) vs
 | [], [], _ => trivial
 | _ :: _, _ :: _, h => ⟨h.1.view, CellsRep.view h.2⟩
 | [], _ :: _, h => h.elim
 | _ :: _, [], h => h.elim

theorem FVRep.view {μ : Mp} {w : World} {x : FV Γ} {y : Value} (h : FVRep base S μ w x y) : FVRep w.heap.size (viewS base S μ) μ0 w (roFV (fun _ _ => true) x) y := by
 cases x with
 | c x => exact CellRep.view h
 | agg cs => obtain ⟨vs, rfl, h⟩ := h; exact ⟨vs, rfl, h.view⟩

theorem FVsRep.view {μ : Mp} {w : World} : ∀ {cs : List (FV Γ)} {vs : List Value}, FVsRep base S μ w cs vs → FVsRep w.heap.size (viewS base S μ) μ0 w (cs.map (roFV fun _ _ => true)) vs
 | [], [], _ => trivial
 | _ :: _, _ :: _, h => ⟨h.1.view, FVsRep.view h.2⟩
 | [], _ :: _, h => h.elim
 | _ :: _, [], h => h.elim

theorem viewPt_rep {μ : Mp} {w : World} {bx : Bx Γ} (hb : ∀ s T cs, bxGet bx s = some (T, cs) → BoxRep base S μ w s T cs) {q r : Pt Γ} {y : Value} (h : PtRep base S μ w q y) (hr : viewPt bx q = some r) : PtRep w.heap.size (viewS base S μ) μ0 w r y := by
 cases q with
 | box s o =>
  obtain ⟨g, hg, rfl⟩ := h
  simp only [viewPt] at hr
  split at hr
  ·rename_i T cs he
   cases hr
   obtain ⟨g', hg', hc⟩ := (hb s T cs he).cells o
   obtain rfl : g = g' := by rw [hg] at hg'; injection hg'
   refine ⟨g, o, rfl, fun j c hj => ?_⟩
   rw [List.getElem?_map] at hj
   obtain ⟨c', hc', rfl⟩ := Option.map_eq_some_iff.1 hj
   obtain ⟨v, f1, f2⟩ := hc j c' hc'
   exact ⟨v, f1, f2.view, stable0, lt_of_cell f1⟩
  ·cases hr
 | ref cs =>
  obtain ⟨b, off, rfl, hc⟩ := h
  cases hr
  refine ⟨b, off, rfl, fun j c hj => ?_⟩
  rw [List.getElem?_map] at hj
  obtain ⟨c', hc', rfl⟩ := Option.map_eq_some_iff.1 hj
  obtain ⟨v, f1, f2, _, f4⟩ := hc j c' hc'
  exact ⟨v, f1, f2.view, stable0, f4⟩
 | ix s o e xs n => cases hr

theorem viewPts_rep {μ : Mp} {w : World} {bx : Bx Γ} (hb : ∀ s T cs, bxGet bx s = some (T, cs) → BoxRep base S μ w s T cs) : ∀ {qs rs : List (Pt Γ)} {ys : List Value}, PtsRep base S μ w qs ys → viewPts bx qs = some rs → PtsRep w.heap.size (viewS base S μ) μ0 w rs ys
 | [], rs, [], _, h => by cases h; trivial
 | q :: qs, rs, y :: ys, hp, h => by
  simp only [viewPts] at h
  split at h
  ·rename_i r hr
   split at h
   ·rename_i rs' hrs
    cases h
    exact ⟨viewPt_rep hb hp.1 hr, viewPts_rep hb hp.2 hrs⟩
   ·cases h
  ·cases h
 | [], _, _ :: _, hp, _ => hp.elim
 | _ :: _, _, [], hp, _ => hp.elim

theorem viewAV_rep {μ : Mp} {w : World} {bx : Bx Γ} (hb : ∀ s T cs, bxGet bx s = some (T, cs) → BoxRep base S μ w s T cs) {a : AV Γ} {y : Value} (h : AVRep base S μ w a y) : AVRep w.heap.size (viewS base S μ) μ0 w (viewAV bx a) y := by
 cases a with
 | u => trivial
 | f x => exact FVRep.view h
 | tup l => obtain ⟨vs, rfl, h⟩ := h; exact ⟨vs, rfl, h.view⟩
 | p q =>
  simp only [viewAV]
  split
  ·rename_i r hr; exact viewPt_rep hb h hr
  ·trivial
 | clo f qs =>
  simp only [viewAV]
  split
  ·rename_i rs hr; obtain ⟨vs, rfl, h⟩ := h; exact ⟨vs, rfl, viewPts_rep hb h hr⟩
  ·trivial

theorem AVsRep.append {μ : Mp} {w : World} : ∀ {as as' : List (AV Γ)} {ys ys' : List Value}, AVsRep base S μ w as ys → AVsRep base S μ w as' ys' → AVsRep base S μ w (as ++ as') (ys ++ ys')
 | [], _, [], _, _, h => h
 | _ :: _, _, _ :: _, _, h, h' => ⟨h.1, AVsRep.append h.2 h'⟩
 | [], _, _ :: _, _, h, _ => h.elim
 | _ :: _, _, [], _, h, _ => h.elim


def valsOf : List VC → List Value → List Value
 | [], _ => []
 | .c _ :: r, v :: vs => v :: valsOf r vs
 | .c _ :: _, [] => []
 | v :: r, vs => .agg (vs.take v.n).toArray :: valsOf r (vs.drop v.n)

theorem avCells_c {l : LC} {a : AV Γ} {cs : List (Cell Γ)} (h : avCells (.c l) a = some cs) : ∃ x, a = .f (.c x) ∧ cs = [x] := by
 cases a with
 | f x =>
  cases x with
  | c x => simp [avCells] at h; exact ⟨x, rfl, h.symm⟩
  | agg cs => simp [avCells] at h
 | _ => simp [avCells] at h

theorem avCells_agg {ls : List LC} {a : AV Γ} {cs : List (Cell Γ)} (h : avCells (.agg ls) a = some cs) : a = .f (.agg cs) ∧ cs.length = ls.length := by
 cases a with
 | f x =>
  cases x with
  | c x => simp [avCells] at h
  | agg cs' =>
   simp only [avCells] at h
   cases hl : cs'.length.beq ls.length with
   | false => simp [hl] at h
   | true =>
    simp only [hl, cond_true] at h
    cases h
    exact ⟨rfl, Nat.eq_of_beq_eq_true hl⟩
 | _ => simp [avCells] at h

theorem args_cells {μ : Mp} {w : World} : ∀ (vcs : List VC) (avs : List (AV Γ)) (ys : List Value) (cs : List (Cell Γ)), vcs.all VC.plain = true → argCells vcs avs = some cs → AVsRep base S μ w avs ys →
  ∃ vs, CellsRep base S μ w cs vs ∧ ys = valsOf vcs vs ∧ cs.length = (vcs.flatMap VC.ls).length
 | [], [], [], cs, _, h, _ => by simp [argCells] at h; subst h; exact ⟨[], trivial, rfl, rfl⟩
 | v :: vcs, a :: avs, y :: ys, cs, hp, h, hr => by
  simp only [List.all_cons, Bool.and_eq_true] at hp
  simp only [argCells] at h
  split at h
  ·rename_i cs1 h1
   split at h
   ·rename_i cs2 h2
    cases h
    obtain ⟨vs2, e1, e2, e3⟩ := args_cells vcs avs ys cs2 hp.2 h2 hr.2
    cases v with
    | c l =>
     obtain ⟨x, rfl, rfl⟩ := avCells_c h1
     exact ⟨y :: vs2, ⟨hr.1, e1⟩, by simp only [valsOf, e2], by simp [VC.ls, e3, Nat.add_comm]⟩
    | agg ls =>
     obtain ⟨rfl, hlen⟩ := avCells_agg h1
     obtain ⟨us, rfl, hc⟩ := hr.1
     have hlu := hc.length
     refine ⟨us ++ vs2, hc.append e1, ?_, by simp [VC.ls, e3, hlen]⟩
     simp only [valsOf, VC.n]
     rw [List.take_left' (by omega), List.drop_left' (by omega), e2]
    | clo f caps => simp [VC.plain] at hp
    | ref ls => simp [VC.plain] at hp
   ·cases h
  ·cases h
 | [], _ :: _, _, _, _, h, _ => by simp [argCells] at h
 | _ :: _, [], _, _, _, h, _ => by simp [argCells] at h
 | [], [], _ :: _, _, _, _, hr => hr.elim
 | _ :: _, _ :: _, [], _, _, _, hr => hr.elim

theorem fvs_rep {μ : Mp} {w : World} : ∀ (vcs : List VC) (cs : List (Cell Γ)) (vs : List Value), vcs.all VC.plain = true → CellsRep base S μ w cs vs → cs.length = (vcs.flatMap VC.ls).length → FVsRep base S μ w (fvsOf vcs cs) (valsOf vcs vs)
 | [], _, _, _, _, _ => trivial
 | .c l :: vcs, c :: cs, v :: vs, hp, h, hl => by
  simp only [List.all_cons, Bool.and_eq_true] at hp
  exact ⟨h.1, fvs_rep vcs cs vs hp.2 h.2 (by rw [List.flatMap_cons, List.length_append, List.length_cons] at hl; simp only [VC.ls, List.length_cons, List.length_nil] at hl; omega)⟩
 | .c l :: vcs, [], _, _, _, hl => by rw [List.flatMap_cons, List.length_append] at hl; simp only [VC.ls, List.length_cons, List.length_nil] at hl; omega
 | .c l :: vcs, _ :: _, [], _, h, _ => h.elim
 | .agg ls :: vcs, cs, vs, hp, h, hl => by
  simp only [List.all_cons, Bool.and_eq_true] at hp
  refine ⟨⟨vs.take ls.length, rfl, h.take _⟩, fvs_rep vcs _ _ hp.2 (h.drop _) ?_⟩
  rw [List.flatMap_cons, List.length_append] at hl; simp only [VC.ls, VC.n, List.length_drop] at hl ⊢; omega
 | .clo _ _ :: _, _, _, hp, _, _ => by simp [VC.plain] at hp
 | .ref _ :: _, _, _, hp, _, _ => by simp [VC.plain] at hp

def newTok (μc : Mp) (ls : List LC) (cs : List (Cell Γ)) (j : Nat) : Option (Nat × Nat) :=
 match ls[j]?, cs[j]? with
 | some (.row _ true), some (.row _ _ (.tok a b)) => μc.τ a b
 | _, _ => none

def backMp (μ μc : Mp) (d : Nat) (ls : List LC) (cs : List (Cell Γ)) : Mp := ⟨μ.ρ, fun d' j' => bif d.beq d' then newTok μc ls cs j' else μ.τ d' j'⟩

theorem newTok_inv {μc : Mp} {ls : List LC} {cs : List (Cell Γ)} {j : Nat} {v : Nat × Nat} (h : newTok μc ls cs j = some v) : ∃ e e' xs a b, ls[j]? = some (.row e true) ∧ cs[j]? = some (.row e' xs (.tok a b)) ∧ μc.τ a b = some v := by
 unfold newTok at h
 split at h
 ·rename_i e e' xs a b h1 h2; exact ⟨e, e', xs, a, b, h1, h2, h⟩
 ·cases h

theorem tokStep_inv {l : LC} {c : Cell Γ} {seen s : List (Nat × Nat)} (h : tokStep l c seen = some s) :
  (∀ x ∈ seen, x ∈ s) ∧ ∀ (g : Nat) (zs : List (Γ.kd g).α) (p q r : Nat), l = .row r true → c = .row g zs (.tok p q) → (p, q) ∈ s ∧ (p, q) ∉ seen := by
 unfold tokStep at h
 split at h
 ·rename_i e e' xs d j
  cases ha : seen.any fun x => (x.1.beq d).and (x.2.beq j) with
  | true => simp [ha] at h
  | false =>
   simp only [ha, cond_false] at h
   cases h
   refine ⟨fun x hx => List.mem_cons_of_mem _ hx, fun g zs p q r _ e2 => ?_⟩
   cases e2
   refine ⟨List.mem_cons_self, fun hm => ?_⟩
   rw [List.any_eq_false] at ha
   have := ha _ hm
   simp [Nat.beq_refl] at this
 ·rename_i hno
  cases h
  exact ⟨fun x hx => hx, fun g zs p q r e1 e2 => (hno _ _ _ _ _ e1 e2).elim⟩

theorem toks_cons {l : LC} {ls : List LC} {c : Cell Γ} {cs : List (Cell Γ)} {seen : List (Nat × Nat)} (h : toksOK (l :: ls) (c :: cs) seen = true) : ∃ s, tokStep l c seen = some s ∧ toksOK ls cs s = true := by
 simp only [toksOK] at h
 split at h
 ·exact ⟨_, by assumption, h⟩
 ·cases h

theorem toks_seen : ∀ (ls : List LC) (cs : List (Cell Γ)) (seen : List (Nat × Nat)), toksOK ls cs seen = true → ∀ (j e e' : Nat) (xs : List (Γ.kd e').α) (a b : Nat), ls[j]? = some (.row e true) → cs[j]? = some (.row e' xs (.tok a b)) → (a, b) ∉ seen
 | [], _, _, _, j, _, _, _, _, _, h1, _ => by simp at h1
 | _ :: _, [], _, _, j, _, _, _, _, _, _, h2 => by simp at h2
 | l :: ls, c :: cs, seen, h, j, e, e', xs, a, b, h1, h2 => by
  obtain ⟨s, hs, hk⟩ := toks_cons h
  obtain ⟨i1, i2⟩ := tokStep_inv hs
  cases j with
  | zero =>
   simp at h1 h2
   exact (i2 _ _ _ _ _ h1 h2).2
  | succ j =>
   simp at h1 h2
   exact fun hm => toks_seen ls cs s hk j e e' xs a b h1 h2 (i1 _ hm)

theorem toks_inj : ∀ (ls : List LC) (cs : List (Cell Γ)) (seen : List (Nat × Nat)), toksOK ls cs seen = true → ∀ (j j' e e' f f' : Nat) (xs : List (Γ.kd e').α) (ys : List (Γ.kd f').α) (a b : Nat),
  ls[j]? = some (.row e true) → cs[j]? = some (.row e' xs (.tok a b)) → ls[j']? = some (.row f true) → cs[j']? = some (.row f' ys (.tok a b)) → j = j'
 | [], _, _, _, j, _, _, _, _, _, _, _, _, _, h1, _, _, _ => by simp at h1
 | _ :: _, [], _, _, j, _, _, _, _, _, _, _, _, _, _, h2, _, _ => by simp at h2
 | l :: ls, c :: cs, seen, h, j, j', e, e', f, f', xs, ys, a, b, h1, h2, h3, h4 => by
  obtain ⟨s, hs, hk⟩ := toks_cons h
  obtain ⟨i1, i2⟩ := tokStep_inv hs
  cases j with
  | zero =>
   cases j' with
   | zero => rfl
   | succ j' =>
    simp at h1 h2 h3 h4
    exact absurd (i2 _ _ _ _ _ h1 h2).1 (toks_seen ls cs s hk j' f f' ys a b h3 h4)
  | succ j =>
   cases j' with
   | zero =>
    simp at h1 h2 h3 h4
    exact absurd (i2 _ _ _ _ _ h3 h4).1 (toks_seen ls cs s hk j e e' xs a b h1 h2)
   | succ j' =>
    simp at h1 h2 h3 h4
    exact congrArg (· + 1) (toks_inj ls cs s hk j j' e e' f f' xs ys a b h1 h2 h3 h4)

end

section
variable {Γ : Ctx} {P : Program} {base : Nat} {S : Nat → Nat → Prop} {w0 : World}

theorem decInt_inv {k : IntKind} {c : Cell Γ} {x : Int} (h : decInt k c = some x) : c = .v (.int k x) := by
 unfold decInt at h
 split at h
 ·split at h
  ·cases h; subst_vars; rfl
  ·cases h
 ·cases h
theorem decBool_inv {c : Cell Γ} {x : Bool} (h : decBool c = some x) {μ : Mp} {w : World} {u : Value} (hc : CellRep base S μ w c u) : u = .bool x := by
 unfold decBool at h
 split at h
 ·cases h; exact hc
 ·cases h; exact hc
 ·cases h; exact hc
 ·cases h
theorem decStr_inv {c : Cell Γ} {x : ByteArray} (h : decStr c = some x) : c = .v (.string x) := by
 unfold decStr at h
 split at h
 ·cases h; rfl
 ·cases h
theorem decRw_inv {e : Nat} {own : Bool} {c : Cell Γ} {x : List (Γ.kd e).α} (h : decRw e own c = some x) : (∃ o, c = .row e x o ∧ (own = true → o.mine = true)) ∨ (c = .v (.slice none 0 0) ∧ x = []) := by
 unfold decRw at h
 split at h
 ·rename_i e' xs o
  cases hb : (!own).or o.mine with
  | false => simp [hb] at h
  | true =>
   simp only [hb, cond_true] at h
   split at h
   ·rename_i he
    subst he
    cases h
    refine .inl ⟨o, rfl, fun ho => ?_⟩
    subst ho
    simpa using hb
   ·cases h
 ·cases h; exact .inr ⟨rfl, rfl⟩
 ·cases h

theorem dec_one {l : LC} {cs : List (Cell Γ)} {y : PT1 Γ l []} (h : decL l [] cs = some y) : ∃ c, cs = [c] ∧ decLeaf l c = some y := by
 match cs, h with
 | [c], h => exact ⟨c, rfl, h⟩
 | [], h => exact absurd (show (none : Option (PT1 Γ l [])) = some y from h) (fun e => nomatch e)
 | _ :: _ :: _, h => exact absurd (show (none : Option (PT1 Γ l [])) = some y from h) (fun e => nomatch e)

theorem dec_two {l b : LC} {r : List LC} {cs : List (Cell Γ)} {y : PT1 Γ l (b :: r)} (h : decL l (b :: r) cs = some y) : ∃ c cs', cs = c :: cs' ∧ decLeaf l c = some y.1 ∧ decL b r cs' = some y.2 := by
 match cs, h with
 | [], h => exact absurd (show (none : Option (PT1 Γ l (b :: r))) = some y from h) (fun e => nomatch e)
 | c :: cs, h =>
  have h' : ((decLeaf l c).bind fun x => (decL b r cs).bind fun z => some (x, z)) = some y := h
  obtain ⟨x, hx, h1⟩ := Option.bind_eq_some_iff.1 h'
  obtain ⟨z, hz, h2⟩ := Option.bind_eq_some_iff.1 h1
  have := Option.some.inj h2
  subst this
  exact ⟨c, cs, rfl, hx, hz⟩

theorem dec_nil {cs : List (Cell Γ)} {y : PT Γ []} (h : decLeaves [] cs = some y) : cs = [] := by
 simp only [decLeaves] at h
 split at h
 ·rfl
 ·cases h

def Moves (base' : Nat) (S' : Nat → Nat → Prop) (μc : Mp) (base : Nat) (S : Nat → Nat → Prop) (μ : Mp) : Prop :=
 ∀ b oo, (b < base' → S' b oo) → Stable base' μc b oo → Stable base μ b oo ∧ (b < base → S b oo)

theorem leaf_rep {base' : Nat} {S' : Nat → Nat → Prop} {μ μc : Mp} {w' : World} {l : LC} {c : Cell Γ} {x : l.T Γ} {u : Value} {o : Own} (hx : decLeaf l c = some x) (hc : CellRep base' S' μc w' c u) (hst : Moves base' S' μc base S μ)
  (ho : ∀ e, l = .row e true → ∀ (xs : List (Γ.kd e).α) (o' : Own), c = .row e xs o' → o'.mine = true → ∀ (A : Option Addr) (n cc : Nat), OwnRep base' μc w' e (Γ.kd e).K.sz A n cc o' → OwnRep base μ w' e (Γ.kd e).K.sz A n cc o)
  (h0 : ∀ e, l = .row e true → OwnRep base μ w' e (Γ.kd e).K.sz none 0 0 o) : CellRep base S μ w' (encLeaf o l x) u := by
 cases l with
 | int k => obtain rfl := decInt_inv hx; exact hc
 | bool => exact decBool_inv hx hc
 | str => obtain rfl := decStr_inv hx; exact hc
 | row e own =>
  rcases decRw_inv hx with ⟨o', rfl, hm⟩ | ⟨rfl, e2⟩
  ·obtain ⟨A, cc, rfl, h1, h2, h3, h4⟩ := hc
   refine ⟨A, cc, rfl, h1, h2, fun hn => ?_, ?_⟩
   ·obtain ⟨b, off, rfl, hh⟩ := h3 hn
    refine ⟨b, off, rfl, fun j v hj => ?_⟩
    obtain ⟨f1, f2, f3⟩ := hh j v hj
    exact ⟨f1, hst b _ f3 f2⟩
   ·cases own with
    | false => trivial
    | true => exact ho e rfl x o' rfl (hm rfl) A _ cc h4
  ·cases hc
   have : x = [] := e2
   subst this
   refine ⟨none, 0, rfl, Nat.le_refl _, Nat.zero_le _, fun hn => (by simp at hn), ?_⟩
   cases own with
   | false => trivial
   | true => exact h0 e rfl

theorem ls_rep {base' : Nat} {S' : Nat → Nat → Prop} {μ μc : Mp} {w' : World} {o : Nat → Own} (hst : Moves base' S' μc base S μ) (h0 : ∀ (j e : Nat), OwnRep base μ w' e (Γ.kd e).K.sz none 0 0 (o j)) :
  ∀ (r : List LC) (l : LC) (cs : List (Cell Γ)) (vs : List Value) (y : PT1 Γ l r) (k : Nat), decL l r cs = some y → CellsRep base' S' μc w' cs vs →
  (∀ (j e : Nat) (xs : List (Γ.kd e).α) (o' : Own), (l :: r)[j]? = some (.row e true) → cs[j]? = some (.row e xs o') → o'.mine = true → ∀ (A : Option Addr) (n cc : Nat), OwnRep base' μc w' e (Γ.kd e).K.sz A n cc o' → OwnRep base μ w' e (Γ.kd e).K.sz A n cc (o (k + j))) →
  CellsRep base S μ w' (encL o k l r y) vs
 | [], l, cs, vs, y, k, h, hc, ho => by
  obtain ⟨c, rfl, hl⟩ := dec_one h
  cases vs with
  | nil => exact hc.elim
  | cons v vs =>
   cases vs with
   | cons _ _ => exact hc.2.elim
   | nil => exact ⟨leaf_rep hl hc.1 hst (fun e he xs o' he' hm => ho 0 e xs o' (by simp [he]) (by simp [he']) hm) (fun e _ => h0 k e), trivial⟩
 | b :: r, l, cs, vs, y, k, h, hc, ho => by
  obtain ⟨c, cs', rfl, hl, hr⟩ := dec_two h
  cases vs with
  | nil => exact hc.elim
  | cons v vs =>
   refine ⟨leaf_rep hl hc.1 hst (fun e he xs o' he' hm => ho 0 e xs o' (by simp [he]) (by simp [he']) hm) (fun e _ => h0 k e), ls_rep hst h0 r b cs' vs y.2 (k + 1) hr hc.2 (fun j e xs o' e1 e2 hm => ?_)⟩
   have := ho (j + 1) e xs o' (by simpa using e1) (by simpa using e2) hm
   rwa [show k + 1 + j = k + (j + 1) by omega]

theorem leaves_rep {base' : Nat} {S' : Nat → Nat → Prop} {μ μc : Mp} {w' : World} {o : Nat → Own} (hst : Moves base' S' μc base S μ) (ls : List LC) (cs : List (Cell Γ)) (vs : List Value) (y : PT Γ ls) (k : Nat) (h : decLeaves ls cs = some y) (hc : CellsRep base' S' μc w' cs vs)
  (ho : ∀ (j e : Nat) (xs : List (Γ.kd e).α) (o' : Own), ls[j]? = some (.row e true) → cs[j]? = some (.row e xs o') → o'.mine = true → ∀ (A : Option Addr) (n cc : Nat), OwnRep base' μc w' e (Γ.kd e).K.sz A n cc o' → OwnRep base μ w' e (Γ.kd e).K.sz A n cc (o (k + j)))
  (h0 : ∀ (j e : Nat), OwnRep base μ w' e (Γ.kd e).K.sz none 0 0 (o j)) : CellsRep base S μ w' (encLeaves o k ls y) vs := by
 cases ls with
 | nil =>
  obtain rfl := dec_nil h
  cases vs with
  | nil => trivial
  | cons _ _ => exact hc.elim
 | cons l r => exact ls_rep hst h0 r l cs vs y k h hc ho

theorem encL_length (o : Nat → Own) : ∀ (r : List LC) (l : LC) (k : Nat) (y : PT1 Γ l r), (encL o k l r y).length = r.length + 1
 | [], _, _, _ => rfl
 | b :: r, l, k, y => congrArg (· + 1) (encL_length o r b (k + 1) y.2)

theorem encLeaves_length (o : Nat → Own) (ls : List LC) (k : Nat) (y : PT Γ ls) : (encLeaves o k ls y).length = ls.length := by
 cases ls with
 | nil => rfl
 | cons l r => exact encL_length o r l k y

theorem encL_no {o o' : Nat → Own} : ∀ (r : List LC) (l : LC) (k : Nat) (y : PT1 Γ l r), (∀ (j e : Nat), (l :: r)[j]? ≠ some (.row e true)) → encL o k l r y = encL o' k l r y := by
 have hleaf : ∀ (l : LC) (p q : Own) (x : l.T Γ), (∀ e, l ≠ .row e true) → encLeaf p l x = encLeaf q l x := by
  intro l p q x hh
  cases l with
  | row e own =>
   cases own with
   | false => rfl
   | true => exact absurd rfl (hh e)
  | _ => rfl
 intro r
 induction r with
 | nil => intro l k y hh; exact congrArg (fun z => [z]) (hleaf l _ _ y fun e he => hh 0 e (by simp [he]))
 | cons b r ih =>
  intro l k y hh
  have h1 := hleaf l (o k) (o' k) y.1 fun e he => hh 0 e (by simp [he])
  have h2 := ih b (k + 1) y.2 (fun j e he => hh (j + 1) e (by simpa using he))
  show encLeaf (o k) l y.1 :: encL o (k + 1) b r y.2 = encLeaf (o' k) l y.1 :: encL o' (k + 1) b r y.2
  rw [h1, h2]

theorem encLeaves_no {o o' : Nat → Own} (ls : List LC) (k : Nat) (y : PT Γ ls) (hh : ∀ (j e : Nat), ls[j]? ≠ some (.row e true)) : encLeaves o k ls y = encLeaves o' k ls y := by
 cases ls with
 | nil => rfl
 | cons l r => exact encL_no r l k y hh

theorem vcs_ls (rc : RC) : rc.vcs.flatMap VC.ls = rc.ls := by cases rc <;> simp [RC.vcs, RC.ls]

theorem res_shape {μ : Mp} {w : World} {d : Nat} (rc : RC) (hok : rc.ok = true) (y : PT Γ rc.ls) (vs : List Value) (h : CellsRep base S μ w (encLeaves (Own.tok d) 0 rc.ls y) vs) : AVRep base S μ w (encRes d rc y) (resVal rc (valsOf rc.vcs vs)) := by
 have hl := encLeaves_length (Own.tok d) rc.ls 0 y
 cases rc with
 | one v =>
  have := fvs_rep [v] _ vs hok h (by rw [hl]; simp [RC.ls])
  cases v with
  | c l =>
   cases hc : encLeaves (Own.tok d) 0 (RC.one (.c l)).ls y with
   | nil => rw [hc] at hl; simp [RC.ls, VC.ls] at hl
   | cons c cs =>
    rw [hc] at h
    cases vs with
    | nil => exact h.elim
    | cons v vs =>
     show FVRep base S μ w (fvOf (.c l) (encLeaves (Own.tok d) 0 (RC.one (.c l)).ls y)) _
     rw [hc]
     exact h.1
  | agg ls =>
   refine ⟨vs.take ls.length, rfl, ?_⟩
   exact h.take _
  | clo f caps => simp [RC.ok, RC.vcs, VC.plain] at hok
  | ref ls => simp [RC.ok, RC.vcs, VC.plain] at hok
 | tup l => exact ⟨valsOf l vs, rfl, fvs_rep l _ vs hok h hl⟩

theorem res_back {w w' : World} {μ : Mp} {rc : RC} {y : PT Γ rc.ls} {v : Value} (hok : rc.ok = true) (hm : MapsOK base μ w) (hle : base ≤ w.heap.size) (hB : Below w.heap.size w w') (h : ResOK Γ (viewS base S μ) w w' rc y v) (d : Nat) :
  ∃ μ', MapsOK base μ' w' ∧ Ext base (pE (some d) (bif rc.ls.any LC.isRow then (.fresh : Eff Γ) else .none)) no1 no1 μ w μ' w' ∧ AVRep base S μ' w' (encRes d rc y) v ∧ μ'.ρ = μ.ρ ∧ ∀ d' j, μ.τ d' j = none → μ'.τ d' j = none ∨ d' = d := by
 obtain ⟨μc, avs, ys, cs, h1, h2, h3, h4, h5, rfl⟩ := h
 obtain ⟨vs, e1, rfl, e3⟩ := args_cells rc.vcs avs ys cs hok h3 h2
 cases hr : rc.ls.any LC.isRow with
 | false =>
  have hno : ∀ (j e : Nat), rc.ls[j]? ≠ some (.row e true) := fun j e he => by
   have := List.any_eq_false.1 hr _ (List.mem_of_getElem? he)
   simp [LC.isRow] at this
  have hmv : Moves w.heap.size (viewS base S μ) μc base S μ := by
   intro b oo hs hst
   rcases Nat.lt_or_ge b w.heap.size with hb | hb
   ·exact ⟨(hs hb).2, (hs hb).1⟩
   ·exact ⟨fun _ => ⟨fun s e => by have := (hm.ρnew s _ e).2; omega, fun dd j u e => by have := (hm.τnew dd j _ u e).2.1; omega⟩, fun h => by omega⟩
  refine ⟨μ, hm.of_size hB.size, Ext.of_below hB hm, res_shape rc hok y vs ?_, rfl, fun _ _ h => .inl h⟩
  -- no leaf is owned: whose they are is not told
  have key := leaves_rep (base := base) (S := S) (μ := μ) (o := fun _ => Own.full) hmv rc.ls cs vs y 0 h5 e1 (fun j e xs o' he => absurd he (hno j e)) (fun _ _ => rfl)
  rw [encLeaves_no (o' := fun _ => Own.full) rc.ls 0 y hno]
  exact key
 | true =>
  have hnew : ∀ j g u, newTok μc rc.ls cs j = some (g, u) → w.heap.size ≤ g ∧ g < w'.heap.size := fun j g u h => by
   obtain ⟨e, e', xs, a, b, _, _, ht⟩ := newTok_inv h
   obtain ⟨f1, f2, _⟩ := h1.τnew a b g u ht
   exact ⟨f1, f2⟩
  have hcases : ∀ d' j g u, (backMp μ μc d rc.ls cs).τ d' j = some (g, u) → (d' = d ∧ newTok μc rc.ls cs j = some (g, u)) ∨ (d.beq d' = false ∧ μ.τ d' j = some (g, u)) := fun d' j g u h => by
   simp only [backMp] at h
   cases hd : d.beq d' with
   | true => simp only [hd, cond_true] at h; exact .inl ⟨(Nat.eq_of_beq_eq_true hd).symm, h⟩
   | false => simp only [hd, cond_false] at h; exact .inr ⟨rfl, h⟩
  have hmv : Moves w.heap.size (viewS base S μ) μc base S (backMp μ μc d rc.ls cs) := by
   intro b oo hs hst
   rcases Nat.lt_or_ge b w.heap.size with hb | hb
   ·refine ⟨fun hbb => ?_, (hs hb).1⟩
    obtain ⟨g1, g2⟩ := (hs hb).2 hbb
    refine ⟨g1, fun d' j u e => ?_⟩
    rcases hcases d' j b u e with ⟨_, e⟩ | ⟨_, e⟩
    ·have := (hnew j b u e).1; omega
    ·exact g2 d' j u e
   ·refine ⟨fun _ => ⟨fun s e => by have := (hm.ρnew s _ e).2; omega, fun d' j u e => ?_⟩, fun h => by omega⟩
    rcases hcases d' j b u e with ⟨_, e⟩ | ⟨_, e⟩
    ·obtain ⟨_, _, _, a, b', _, _, ht⟩ := newTok_inv e
     exact (hst hb).2 a b' u ht
    ·have := (hm.τnew d' j b u e).2.1; omega
  have hpf : ∀ d' j, pE (some d) (.fresh : Eff Γ) d' j = false → d.beq d' = false := fun d' j h => h
  refine ⟨backMp μ μc d rc.ls cs, ⟨hm.ρinj, fun s g h => ⟨(hm.ρnew s g h).1, Nat.lt_of_lt_of_le (hm.ρnew s g h).2 hB.size⟩, fun d' j g u h => ?_, fun d' j d'' j' g u u' h h' => ?_⟩,
   ⟨hB.size, fun b o hb _ => hB.cell (p := ⟨b, o, none⟩) hb, fun b o hb hst => ?_, fun _ _ _ h => h, fun s g _ _ h => hB.block g (hm.ρnew s g h).2, fun d' j v hp h => ?_, fun d' j g u _ h => hB.block g (hm.τnew d' j g u h).2.1⟩, res_shape rc hok y vs ?_, rfl, fun d' j h => ?_⟩
  ·rcases hcases d' j g u h with ⟨_, e⟩ | ⟨_, e⟩
   ·obtain ⟨f1, f2⟩ := hnew j g u e
    exact ⟨by omega, f2, fun s e => by have := (hm.ρnew s _ e).2; omega⟩
   ·obtain ⟨f1, f2, f3⟩ := hm.τnew d' j g u e
    exact ⟨f1, Nat.lt_of_lt_of_le f2 hB.size, f3⟩
  ·rcases hcases d' j g u h with ⟨e1, e⟩ | ⟨_, e⟩ <;> rcases hcases d'' j' g u' h' with ⟨e1', e'⟩ | ⟨_, e'⟩
   ·refine ⟨e1.trans e1'.symm, ?_⟩
    obtain ⟨a1, a2, a3, a4, a5, a6, a7, a8⟩ := newTok_inv e
    obtain ⟨b1, b2, b3, b4, b5, b6, b7, b8⟩ := newTok_inv e'
    obtain ⟨rfl, rfl⟩ := h1.τinj _ _ _ _ _ _ _ a8 b8
    exact toks_inj rc.ls cs [] h4 j j' _ _ _ _ _ _ _ _ a6 a7 b6 b7
   ·have := (hnew j g u e).1; have := (hm.τnew d'' j' g u' e').2.1; omega
   ·have := (hnew j' g u' e').1; have := (hm.τnew d' j g u e).2.1; omega
   ·exact hm.τinj _ _ _ _ _ _ _ e e'
  ·intro hbb
   obtain ⟨g1, g2⟩ := hst hbb
   refine ⟨g1, fun d' j u e => ?_⟩
   rcases hcases d' j b u e with ⟨_, e⟩ | ⟨_, e⟩
   ·have := (hnew j b u e).1; omega
   ·exact g2 d' j u e
  ·simp only [backMp, hpf d' j hp, cond_false]; exact h
  ·refine leaves_rep hmv rc.ls cs vs y 0 h5 e1 (fun j e xs o' he hc hmine A n cc hown => ?_) (fun _ _ => .inl rfl)
   rw [Nat.zero_add]
   cases o' with
   | ro => cases hmine
   | full => exact .inl hown
   | tok a b =>
    rcases hown with hown | ⟨g, cur, f1, f2, f3, f4, f5, f6⟩
    ·exact .inl hown
    ·refine .inr ⟨g, cur, f1, by omega, ?_, f4, f5, f6⟩
     have e1 : d.beq d = true := Nat.beq_refl d
     simp only [backMp, e1, cond_true, newTok, he, hc, f3]
  ·cases hd : d.beq d' with
   | true => exact .inr (Nat.eq_of_beq_eq_true hd).symm
   | false => exact .inl (by simp only [backMp, hd, cond_false]; exact h)

theorem entRun_inv {R : Type} {d : Nat} {args : List (AV Γ)} {f : Nat} {K : AV Γ → Eff Γ → Option R} {r : R} : ∀ {E : List (Ent Γ)}, entRun d args f K E = some r →
  ∃ e ∈ E, e.f = f ∧ ∃ cs x y, argCells e.args args = some cs ∧ decLeaves (e.args.flatMap VC.ls) cs = some x ∧ e.fn x = some y ∧ K (encRes d e.res y) (bif e.res.ls.any LC.isRow then .fresh else .none) = some r
 | [], h => by simp [entRun] at h
 | e :: E, h => by
  simp only [entRun] at h
  cases hf : Nat.beq e.f f with
  | false =>
   simp only [hf, cond_false] at h
   obtain ⟨e', he, hh⟩ := entRun_inv h
   exact ⟨e', List.mem_cons_of_mem _ he, hh⟩
  | true =>
   simp only [hf, cond_true] at h
   have hrest : entRun d args f K E = some r → ∃ e' ∈ e :: E, e'.f = f ∧ ∃ cs x y, argCells e'.args args = some cs ∧ decLeaves (e'.args.flatMap VC.ls) cs = some x ∧ e'.fn x = some y ∧ K (encRes d e'.res y) (bif e'.res.ls.any LC.isRow then .fresh else .none) = some r := fun h => by
    obtain ⟨e', he, hh⟩ := entRun_inv h
    exact ⟨e', List.mem_cons_of_mem _ he, hh⟩
   split at h
   ·rename_i cs hcs
    split at h
    ·rename_i x hx
     obtain ⟨y, hy, hk⟩ := Option.bind_eq_some_iff.1 h
     exact ⟨e, List.mem_cons_self, Nat.eq_of_beq_eq_true hf, cs, x, y, hcs, hx, hy, hk⟩
    ·exact hrest h
   ·exact hrest h

theorem sem_call {R : Type} {o : Oper} {tm : Tm Γ} {bx : Bx Γ} {c : Call} {E : List (Ent Γ)} (hE : ∀ e ∈ E, EntOK P e) (h : o.op = .call c) {f : Operand} (hc : c.callee = .value f) {g d : Nat} {caps : List (Pt Γ)} (hf : ev tm f = .clo g caps) (hd : o.dst = some d)
  {K : AV Γ → Eff Γ → Option R} {r : R} (hk : entRun d ((c.args.toList.map fun x => viewAV bx (ev tm x)) ++ caps.map fun q => viewAV bx (.p q)) g K E = some r) : ∃ v eff, K v eff = some r ∧ OpSem P o tm bx v eff := by
 obtain ⟨e, he, rfl, cs, x, y, h1, h2, h3, h4⟩ := entRun_inv hk
 refine ⟨_, _, h4, ?_⟩
 obtain ⟨hres, ⟨fn, hfn, hname, hbody⟩, hcalls⟩ := hE e he
 intro base S w0 a w μ hp next Q hn
 have hpf := hp.ops f (by rw [h]; simp [Op.operands, Call.operands, hc])
 rw [hf] at hpf
 obtain ⟨vs, ef, hvs⟩ := hpf
 have hargs : AVsRep w.heap.size (viewS base S μ) μ0 w ((c.args.toList.map fun x => viewAV bx (ev tm x)) ++ caps.map fun q => viewAV bx (.p q)) ((c.args.map a.eval).toList ++ vs) := by
  refine AVsRep.append ?_ ?_
  ·have : ∀ l : List Operand, (∀ x ∈ l, AVRep base S μ w (ev tm x) (a.eval x)) → AVsRep w.heap.size (viewS base S μ) μ0 w (l.map fun x => viewAV bx (ev tm x)) (l.map a.eval) := by
    intro l
    induction l with
    | nil => intro _; trivial
    | cons x l ih => intro hh; exact ⟨viewAV_rep hp.bx (hh x (by simp)), ih fun y hy => hh y (by simp [hy])⟩
   rw [Array.toList_map]
   exact this _ fun x hx => hp.ops x (by rw [h]; simp [Op.operands, Call.operands, hc]; exact .inr (by simpa using hx))
  ·have : ∀ (qs : List (Pt Γ)) (vs : List Value), PtsRep base S μ w qs vs → AVsRep w.heap.size (viewS base S μ) μ0 w (qs.map fun q => viewAV bx (.p q)) vs := by
    intro qs
    induction qs with
    | nil => intro vs hh; cases vs with
     | nil => trivial
     | cons _ _ => exact hh.elim
    | cons q qs ih => intro vs hh; cases vs with
     | nil => exact hh.elim
     | cons v vs => exact ⟨viewAV_rep (a := .p q) hp.bx hh.1, ih vs hh.2⟩
   exact this caps vs hvs
 have hcall := hcalls (viewS base S μ) w _ _ cs x y h1 h2 h3 hargs
 have hexec : (execOp a.eval o).run P w = .ok (.enter e.f ((c.args.map a.eval).toList ++ vs).toArray) w := by
  have harr : (c.args.map a.eval) ++ vs.toArray = ((c.args.map a.eval).toList ++ vs).toArray := by simp
  simp only [execOp, h, resolve, hc, ef, Deferred.ofValue, Sem.run_bind, Sem.run_pure, Result.andThen_ok, invoke, callFunc, run_program, hfn, hname, hbody, Bool.false_eq_true, if_false, Array.empty_append, harr]
 unfold Oper.wp
 rw [hexec, Oper.upon_enter]
 refine hcall.mono fun en w' hh => ?_
 obtain ⟨v, rfl, hB, hr⟩ := hh
 obtain ⟨μ', g1, g2, g3, g4, g5⟩ := res_back hres hp.maps hp.le hB hr d
 have hq : ∀ b : Bool, (qE o.dst (bif b then (.fresh : Eff Γ) else .none)) = no1 := fun b => by cases b <;> rfl
 have hi : ∀ b : Bool, (iE o.dst (bif b then (.fresh : Eff Γ) else .none)) = no1 := fun b => by cases b <;> rfl
 refine hn v w' μ' ⟨g1, hp.below.trans (hB.mono hp.le), ?_, g3, fun s hs => .inl (by rw [g4]; exact hs), fun d' j hn' => (g5 d' j hn').imp id fun e => by rw [hd, e], fun T cs' ee => ?_, fun s off cs' ee => ?_⟩
 ·rw [hq, hi, hd]; exact g2
 ·cases hh : e.res.ls.any LC.isRow <;> simp [hh] at ee
 ·cases hh : e.res.ls.any LC.isRow <;> simp [hh] at ee

end

section
variable {Γ : Ctx} {P : Program}

theorem sem_append (C : CtxOK P Γ) {o : Oper} {tm : Tm Γ} {bx : Bx Γ} {c : Call} (h : o.op = .call c) (hc : c.callee = .builtin .append) {x y : Operand} {t d e bytes : Nat} (ha : c.args.toList = [x, y]) (hT : c.argTypes.toList = [t, t]) (hd : o.dst = some d)
  (ht : Γ.td t = .sl e bytes) {xs ys : List (Γ.kd e).α} {ow ow' : Own} {tk : Option (Nat × Nat)} (hx : coerce t (ev tm x) = .f (.c (.row e xs ow))) (hy : coerce t (ev tm y) = .f (.c (.row e ys ow'))) (ho : tokO ow = some tk)
  (hb : (xs.length + ys.length) * bytes ≤ 140737488355328) : OpSem P o tm bx (.f (.c (.row e (xs ++ ys) (.tok d 0)))) (.app tk) := by
 have ea : c.args = #[x, y] := by simpa using congrArg List.toArray ha
 have et : c.argTypes = #[t, t] := by simpa using congrArg List.toArray hT
 obtain ⟨ii, ie, z, hu, hi1, _, _, hie, hiz, hsz, hby, hzs, hb0⟩ := td_sl C ht
 intro base S w0 a w μ hp next Q hn
 have h1 := coerce_rep (t := t) (hp.ops x (by rw [h]; simp [Op.operands, Call.operands, hc, ea]))
 have h2 := coerce_rep (t := t) (hp.ops y (by rw [h]; simp [Op.operands, Call.operands, hc, ea]))
 rw [hx] at h1
 rw [hy] at h2
 obtain ⟨v, w', nv, hr, H, hv⟩ := app_run (Γ := Γ) (P := P) (Γ.kd e).K hu hie hiz hsz hby hzs hb0 hp.maps hp.le ho h1 h2 hb d o.type
 have hexec : (execOp a.eval o).run P w = .ok (.value v) w' := by
  simp only [execOp, h, resolve, hc, ea, et, invoke, builtin, Sem.run_bind, Sem.run_pure, Result.andThen_ok, List.map_toArray, List.map_cons, List.map_nil, hr]
 unfold Oper.wp
 rw [hexec]
 refine hn v w' (mvTok μ d tk nv) ⟨H.maps hp.maps, hp.below.trans H.below, ?_, hv, fun s hs => .inl hs, fun d' j' hn' => ?_, fun _ _ e => (by cases e), fun _ _ _ e => (by cases e)⟩
 ·rw [hd]
  exact H.ext
 ·cases he : (mvTok μ d tk nv).τ d' j' with
  | none => exact .inl rfl
  | some v =>
   rcases mv_cases (Γ := Γ) he with ⟨e1, _, _⟩ | ⟨_, e1⟩
   ·exact .inr (by rw [hd, e1])
   ·rw [hn'] at e1; cases e1

theorem appendAV_inv {R : Type} {d e0 bytes : Nat} (hb0 : 0 < bytes) {x y : AV Γ} {K : AV Γ → Eff Γ → Option R} {r : R} (h : appendAV d e0 bytes x y K = some r) :
  ∃ (xs ys : List (Γ.kd e0).α) (ow ow' : Own) (tk : Option (Nat × Nat)), x = .f (.c (.row e0 xs ow)) ∧ y = .f (.c (.row e0 ys ow')) ∧ tokO ow = some tk ∧ (xs.length + ys.length) * bytes ≤ 140737488355328 ∧ K (.f (.c (.row e0 (xs ++ ys) (.tok d 0)))) (.app tk) = some r := by
 unfold appendAV at h
 split at h
 ·rename_i e xs ow e' ys ow'
  cases he : e.beq e0 with
  | false => simp [he] at h
  | true =>
   obtain rfl := Nat.eq_of_beq_eq_true he
   simp only [he, Bool.not_true, cond_false] at h
   split at h
   ·rename_i hee
    subst hee
    split at h
    ·rename_i tk htk
     split at h
     ·rename_i b
      split at h
      ·rename_i hlt
       refine ⟨xs, [b], ow, ow', tk, rfl, rfl, htk, ?_, h⟩
       have := Nat.mul_le_of_le_div _ _ _ (show xs.length + 1 ≤ 140737488355328 / bytes from hlt)
       simpa using this
      ·cases h
     ·split at h
      ·rename_i hle
       exact ⟨xs, ys, ow, ow', tk, rfl, rfl, htk, Nat.mul_le_of_le_div _ _ _ hle, h⟩
      ·cases h
    ·cases h
   ·cases h
 ·cases h

theorem callAV_sound {R : Type} (C : CtxOK P Γ) {E : List (Ent Γ)} (hE : ∀ e ∈ E, EntOK P e) {o : Oper} {tm : Tm Γ} {bx : Bx Γ} {c : Call} (hop : o.op = .call c) {K : AV Γ → Eff Γ → Option R} {r : R} (h : callAV E tm bx o c K = some r) :
  ∃ v eff, K v eff = some r ∧ (effOK bx eff = true → OpSem P o tm bx v eff) := by
 unfold callAV at h
 split at h
 ·rename_i f hc
  split at h
  ·rename_i g caps hf
   split at h
   ·rename_i d hd
    obtain ⟨v, eff, h1, h2⟩ := sem_call hE hop hc hf hd h
    exact ⟨v, eff, h1, fun _ => h2⟩
   ·cases h
  ·cases h
 ·rename_i hc
  split at h
  ·rename_i x t ha hT
   obtain ⟨v, h1, h2⟩ := sem_len C hop hc ha hT h
   exact ⟨v, .none, h1, fun _ => h2⟩
  ·cases h
 ·rename_i hc
  split at h
  ·rename_i x y ha
   obtain ⟨v, h1, h2⟩ := sem_mm (mx := true) hop hc ha h
   exact ⟨v, .none, h1, fun _ => h2⟩
  ·cases h
 ·rename_i hc
  split at h
  ·rename_i x y ha
   obtain ⟨v, h1, h2⟩ := sem_mm (mx := false) hop hc ha h
   exact ⟨v, .none, h1, fun _ => h2⟩
  ·cases h
 ·rename_i hc
  split at h
  ·rename_i x y t t' d ha hT hd
   cases htt : t.beq t' with
   | false => simp [htt] at h
   | true =>
    obtain rfl := Nat.eq_of_beq_eq_true htt
    simp only [htt, cond_true] at h
    split at h
    ·rename_i e bytes htd
     obtain ⟨_, _, _, _, _, _, _, _, _, _, _, _, hb0⟩ := td_sl C htd
     obtain ⟨xs, ys, ow, ow', tk, e1, e2, e3, e4, e5⟩ := appendAV_inv hb0 h
     exact ⟨_, _, e5, fun _ => sem_append C hop hc ha hT hd htd e1 e2 e3 e4⟩
    ·cases h
  ·cases h
 ·cases h

theorem evalOp_sound {R : Type} (C : CtxOK P Γ) {E : List (Ent Γ)} (hE : ∀ e ∈ E, EntOK P e) {o : Oper} {tm : Tm Γ} {bx : Bx Γ} {K : AV Γ → Eff Γ → Option R} {r : R} (h : evalOp E tm bx o K = some r) :
  ∃ v eff, K v eff = some r ∧ (effOK bx eff = true → OpSem P o tm bx v eff) := by
 have h0 := h
 unfold evalOp at h
 split at h
 ·rename_i x hop; exact ⟨_, _, h, fun _ => sem_move (.inl hop)⟩
 ·rename_i x hop; exact ⟨_, _, h, fun _ => sem_move (.inr hop)⟩
 ·rename_i c x y hop
  obtain ⟨b, hb, hh⟩ := onBool_inv h
  refine ⟨if b = true then ev tm x else ev tm y, .none, ?_, fun _ => sem_pick hop hb⟩
  cases b <;> simpa using hh
 ·rename_i t hop
  split at h
  ·rename_i cs d hz hd; exact ⟨_, _, h, fun _ => sem_alloc C hop hd hz⟩
  ·cases h
 ·rename_i t x hop
  split at h
  ·rename_i fv d hx hd
   cases hok : fv.ok with
   | false => simp [hok] at h
   | true => simp only [hok, cond_true] at h; exact ⟨_, _, h, fun _ => sem_box hop hd hx hok⟩
  ·cases h
 ·rename_i t parts hop
  split at h
  ·rename_i sz zs fs htd
   split at h
   ·rename_i cs hf; exact ⟨_, _, h, fun _ => sem_build_st C hop htd hf⟩
   ·cases h
  ·rename_i n e esz zs htd
   split at h
   ·rename_i cs hf; exact ⟨_, _, h, fun _ => sem_build_ar C hop htd hf⟩
   ·cases h
  ·cases h
 ·rename_i t len parts hop
  split at h
  ·rename_i e b htd
   split at h
   ·rename_i cs hf
    split at h
    ·rename_i vs hv
     split at h
     ·rename_i xs hd
      cases hle : (len * (Γ.kd e).K.sz).ble 16777216 with
      | false => simp [hle] at h
      | true => simp only [hle, cond_true] at h; exact ⟨_, _, h, fun _ => sem_buildSlice C hop htd hf hv hd (Nat.le_of_ble_eq_true hle)⟩
     ·cases h
    ·cases h
   ·cases h
  ·cases h
 ·rename_i t x hop
  obtain ⟨v, h1, h2⟩ := sem_load C hop h0
  exact ⟨v, _, h1, fun _ => h2⟩
 ·rename_i t x y hop
  split at h
  ·rename_i s off fv hx hy
   cases hb : ((Γ.td t).known.and ((fvCells fv).all Cell.one)).and ((fvCells fv).length.beq (Γ.td t).size) with
   | false => simp [hb] at h
   | true =>
    simp only [hb, cond_true] at h
    simp only [Bool.and_eq_true] at hb
    exact ⟨_, _, h, fun heff => sem_store C hop hx hy hb.1.1 hb.1.2 (Nat.eq_of_beq_eq_true hb.2) heff⟩
  ·cases h
 ·rename_i x hop
  split at h
  ·rename_i q hx; exact ⟨_, _, h, fun _ => by have := sem_nilCheck (P := P) (bx := bx) hop (.inl ⟨q, hx⟩); rwa [hx] at this⟩
  ·rename_i f caps hx; exact ⟨_, _, h, fun _ => by have := sem_nilCheck (P := P) (bx := bx) hop (.inr ⟨f, caps, hx⟩); rwa [hx] at this⟩
  ·cases h
 ·rename_i op t x y t' hop
  obtain ⟨v, h1, h2⟩ := sem_binOp C hop h
  exact ⟨v, _, h1, fun _ => h2⟩
 ·rename_i op t x hop
  obtain ⟨v, h1, h2⟩ := sem_unOp hop h
  exact ⟨v, _, h1, fun _ => h2⟩
 ·rename_i src dst x hop
  split at h
  ·rename_i k k' n htd hx
   split at h
   ·rename_i k'' hts
    exact ⟨_, _, h, fun _ => sem_convert_int C hop htd ⟨_, (td_int C hts).1⟩ hx⟩
   ·cases h
  ·cases h
 ·rename_i t x i hop
  split at h
  ·rename_i sz zs fs cs htd hx
   split at h
   ·rename_i f hf
    obtain ⟨v, h1, h2⟩ := sem_field C hop htd hx hf h
    exact ⟨v, _, h1, fun _ => h2⟩
   ·cases h
  ·cases h
 ·rename_i t x i hop
  split at h
  ·rename_i sz zs fs htd
   split at h
   ·rename_i f s o' hf hx; exact ⟨_, _, h, fun _ => sem_fieldAddr C hop htd hx hf ptq_box⟩
   ·rename_i f cs hf hx; exact ⟨_, _, h, fun _ => sem_fieldAddr C hop htd hx hf ptq_ref⟩
   ·rename_i f s o' e xs i hf hx; exact ⟨_, _, h, fun _ => sem_fieldAddr C hop htd hx hf ptq_ix⟩
   ·cases h
  ·cases h
 ·rename_i t x i hop
  split at h
  ·rename_i e' b e xs ow n htd hx hi
   cases hee : e.beq e' with
   | false => simp [hee] at h
   | true =>
    simp only [hee, cond_true] at h
    by_cases h1 : 0 ≤ n
    ·by_cases h2 : n < (xs.length : Int)
     ·rw [if_pos h1, if_pos h2] at h; exact ⟨_, _, h, fun _ => sem_indexAddr_sl C hop htd hee hx hi h1 h2⟩
     ·rw [if_pos h1, if_neg h2] at h; cases h
    ·rw [if_neg h1] at h; cases h
  ·rename_i len e esz zs s off n htd hx hi
   split at h
   ·rename_i T cs hb
    cases hT : (Γ.td T).isArr with
    | false => simp [hT] at h
    | true =>
     simp only [hT, cond_true] at h
     split at h
     ·rename_i vs hv
      split at h
      ·rename_i xs hd
       by_cases h1 : 0 ≤ n
       ·by_cases h2 : n < (len : Int)
        ·rw [if_pos h1, if_pos h2] at h; exact ⟨_, _, h, fun _ => sem_indexAddr_ar C hop htd hx hi hb hT hv hd h1 h2⟩
        ·rw [if_pos h1, if_neg h2] at h; cases h
       ·rw [if_neg h1] at h; cases h
      ·cases h
     ·cases h
   ·cases h
  ·cases h
 ·rename_i t x i hop
  split at h
  ·rename_i s n htd hx hi
   by_cases h1 : 0 ≤ n
   ·by_cases h2 : n < (s.size : Int)
    ·rw [if_pos h1, if_pos h2] at h; exact ⟨_, _, h, fun _ => sem_index_str C hop htd hx hi h1 h2⟩
    ·rw [if_pos h1, if_neg h2] at h; cases h
   ·rw [if_neg h1] at h; cases h
  ·rename_i len e esz zs cs n htd hx hi
   split at h
   ·rename_i vs hv
    split at h
    ·rename_i xs hd
     by_cases h1 : 0 ≤ n
     ·by_cases h2 : n < (len : Int)
      ·rw [if_pos h1, if_pos h2] at h
       obtain ⟨v, e1, e2⟩ := sem_index_ar C hop htd hx hi hv hd h1 h2 h
       exact ⟨v, _, e1, fun _ => e2⟩
      ·rw [if_pos h1, if_neg h2] at h; cases h
     ·rw [if_neg h1] at h; cases h
    ·cases h
   ·cases h
  ·cases h
 ·rename_i t x lo hi mx hop
  split at h
  ·obtain ⟨v, h1, h2⟩ := sem_cut C hop h
   exact ⟨v, _, h1, fun _ => h2⟩
  ·cases h
 ·rename_i x i hop
  split at h
  ·rename_i l hx
   split at h
   ·rename_i v hv; exact ⟨_, _, h, fun _ => sem_extract hop hx hv⟩
   ·cases h
  ·cases h
 ·rename_i f first captured hop
  split at h
  ·rename_i qs hf hq; exact ⟨_, _, h, fun _ => sem_makeFunc hop hf hq⟩
  ·cases h
 ·rename_i c hop; exact callAV_sound C hE hop h
 ·cases h

end

section
variable {Γ : Ctx} {P : Program}

structure Inv (base : Nat) (S : Nat → Nat → Prop) (w0 : World) (n : Nat) (st : St Γ) (a : Act) (w : World) (μ : Mp) : Prop where
 maps : MapsOK base μ w
 below : Below base w0 w
 le : base ≤ w.heap.size
 tm : ∀ t, AVRep base S μ w (tmGet st.tm t) (a.eval (.tmp t))
 bx : ∀ s T cs, bxGet st.bx s = some (T, cs) → BoxRep base S μ w s T cs
 dom : ∀ s, bxGet st.bx s = none → μ.ρ s = none
 defers : a.defers = []
 size : a.tmps.size = n

variable {base : Nat} {S : Nat → Nat → Prop} {w0 : World} {n : Nat}

theorem ev_rep {tm : Tm Γ} {a : Act} {μ : Mp} {w : World} (h : ∀ t, AVRep base S μ w (tmGet tm t) (a.eval (.tmp t))) (x : Operand) : AVRep base S μ w (ev tm x) (a.eval x) := by
 cases x with
 | tmp t => exact h t
 | const v => exact constAV_rep v
 | global g => trivial
 | func f => exact ⟨[], rfl, trivial⟩

theorem Inv.pre {st : St Γ} {a : Act} {w : World} {μ : Mp} (h : Inv base S w0 n st a w μ) (o : Oper) : OpPre base S w0 o st.tm st.bx a w μ :=
 ⟨h.maps, h.below, h.le, fun x _ => ev_rep h.tm x, h.bx⟩

theorem tmGet_map (f : AV Γ → AV Γ) (hf : f .u = .u) : ∀ (tm : Tm Γ) (t : Nat), tmGet (tm.map fun x => (x.1, f x.2)) t = f (tmGet tm t)
 | [], _ => hf.symm
 | (i, a) :: r, t => by
  simp only [List.map_cons, tmGet]
  cases Nat.beq i t with
  | true => rfl
  | false => exact tmGet_map f hf r t

theorem bxGet_map (f : Cell Γ → Cell Γ) : ∀ (bx : Bx Γ) (s : Nat), bxGet (bx.map fun x => (x.1, x.2.1, x.2.2.map f)) s = (bxGet bx s).map fun x => (x.1, x.2.map f)
 | [], _ => rfl
 | (i, a) :: r, s => by
  simp only [List.map_cons, bxGet]
  cases Nat.beq i s with
  | true => rfl
  | false => exact bxGet_map f r s

theorem bxGet_filter (p : Nat → Bool) : ∀ (bx : Bx Γ) (s : Nat), bxGet (bx.filter fun x => !p x.1) s = bif p s then none else bxGet bx s
 | [], s => by cases p s <;> rfl
 | (i, a) :: r, s => by
  have ih := bxGet_filter p r s
  cases hp : p i with
  | true =>
   rw [List.filter_cons_of_neg (by simp [hp]), ih]
   simp only [bxGet]
   cases hi : Nat.beq i s with
   | true =>
    obtain rfl := Nat.eq_of_beq_eq_true hi
    simp [hp]
   | false => rfl
  | false =>
   rw [List.filter_cons_of_pos (by simp [hp])]
   simp only [bxGet]
   cases hi : Nat.beq i s with
   | true =>
    obtain rfl := Nat.eq_of_beq_eq_true hi
    simp [hp]
   | false => simpa using ih

theorem bxGet_set : ∀ (bx : Bx Γ) (s s' : Nat) (cs : List (Cell Γ)), bxGet (bxSet bx s cs) s' = bif s.beq s' then (bxGet bx s).map (fun x => (x.1, cs)) else bxGet bx s'
 | [], s, s', cs => by cases h : s.beq s' <;> simp [bxSet, bxGet, h]
 | (i, T, a) :: r, s, s', cs => by
  simp only [bxSet]
  cases hi : Nat.beq i s with
  | true =>
   obtain rfl := Nat.eq_of_beq_eq_true hi
   simp only [cond_true, bxGet, hi]
   cases hs : Nat.beq i s' with
   | true => rfl
   | false => rfl
  | false =>
   simp only [cond_false, bxGet, hi]
   cases hs : Nat.beq i s' with
   | true =>
    obtain rfl := Nat.eq_of_beq_eq_true hs
    have : s.beq i = false := by
     cases h : s.beq i with
     | false => rfl
     | true => rw [Nat.eq_of_beq_eq_true h, Nat.beq_refl] at hi; cases hi
    simp [this]
   | false =>
    simp only [cond_false]
    exact bxGet_set r s s' cs

theorem bxHas_get {bx : Bx Γ} {d : Nat} (h : bxHas bx d = false) : bxGet bx d = none := by
 induction bx with
 | nil => rfl
 | cons x bx ih =>
  obtain ⟨i, a⟩ := x
  simp only [bxHas, List.any_cons, Bool.or_eq_false_iff] at h
  simp only [bxGet]
  have h1 : Nat.beq i d = false := h.1
  rw [h1]
  exact ih h.2

theorem put_eval {a : Act} {d t : Nat} {y : Value} (hd : d < a.tmps.size) : (a.put (some d) y).eval (.tmp t) = if t = d then y else a.eval (.tmp t) := by
 simp only [Act.put, Act.eval, Array.getD_eq_getD_getElem?]
 by_cases h : t = d
 ·subst h; simp [hd]
 ·rw [if_neg h, Array.getElem?_setIfInBounds_ne (Ne.symm h)]

theorem noPt_id {q : Nat → Bool} {μ : Mp} {w : World} (hq : ∀ s, q s = true → μ.ρ s = none) {x : AV Γ} {y : Value} (h : AVRep base S μ w x y) : noPt q q x = x := by
 have key : ∀ (p : Pt Γ) (v : Value), PtRep base S μ w p v → ptIn q q p = false := by
  intro p v hp
  cases p with
  | box s o =>
   obtain ⟨g, hg, _⟩ := hp
   cases hs : q s with
   | false => exact hs
   | true => rw [hq s hs] at hg; cases hg
  | ref cs => rfl
  | ix s o e xs i =>
   obtain ⟨g, _, _, _, hg, _⟩ := hp
   cases hs : q s with
   | false => exact hs
   | true => rw [hq s hs] at hg; cases hg
 cases x with
 | p p => simp only [noPt, key p y h, cond_false]
 | clo f qs =>
  obtain ⟨vs, rfl, hr⟩ := h
  have : ∀ (qs : List (Pt Γ)) (vs : List Value), PtsRep base S μ w qs vs → qs.any (ptIn q q) = false := by
   intro qs
   induction qs with
   | nil => intro _ _; rfl
   | cons p qs ih => intro vs hr; cases vs with
    | nil => exact hr.elim
    | cons v vs => simp [key p v hr.1, ih vs hr.2]
  simp only [noPt, this qs vs hr, cond_false]
 | _ => rfl

theorem noIx_id {s T : Nat} {cs : List (Cell Γ)} {μ : Mp} {w : World} (hb : BoxRep base S μ w s T cs) (hT : (Γ.td T).isArr = false) {x : AV Γ} {y : Value} (h : AVRep base S μ w x y) : noPt (fun _ => false) (fun z => s.beq z) x = x := by
 obtain ⟨g, cur, h1, h2, _⟩ := hb
 have key : ∀ (p : Pt Γ) (v : Value), PtRep base S μ w p v → ptIn (fun _ => false) (fun z => s.beq z) p = false := by
  intro p v hp
  cases p with
  | box s o => rfl
  | ref cs => rfl
  | ix s' o e xs i =>
   obtain ⟨g', _, cur', T', hg, hh, hT', _⟩ := hp
   show s.beq s' = false
   cases hs : s.beq s' with
   | false => rfl
   | true =>
    obtain rfl := Nat.eq_of_beq_eq_true hs
    rw [h1] at hg
    injection hg with hg
    subst hg
    rw [h2] at hh
    injection hh with hh
    injection hh with _ hh
    subst hh
    rw [hT] at hT'
    cases hT'
 cases x with
 | p p => simp only [noPt, key p y h, cond_false]
 | clo f qs =>
  obtain ⟨vs, rfl, hr⟩ := h
  have : ∀ (qs : List (Pt Γ)) (vs : List Value), PtsRep base S μ w qs vs → qs.any (ptIn (fun _ => false) (fun z => s.beq z)) = false := by
   intro qs
   induction qs with
   | nil => intro _ _; rfl
   | cons p qs ih => intro vs hr; cases vs with
    | nil => exact hr.elim
    | cons v vs => simp [key p v hr.1, ih vs hr.2]
  simp only [noPt, this qs vs hr, cond_false]
 | _ => rfl


def or2 (p q : Nat → Nat → Bool) : Nat → Nat → Bool := fun d j => (p d j).or (q d j)

theorem roCell_or (p q : Nat → Nat → Bool) (c : Cell Γ) : roCell q (roCell p c) = roCell (or2 p q) c := by
 cases c with
 | row e xs o =>
  cases o with
  | tok d j =>
   simp only [roCell, or2]
   cases hp : p d j <;> simp [hp]
  | _ => rfl
 | _ => rfl
theorem roCells_or (p q : Nat → Nat → Bool) (cs : List (Cell Γ)) : (cs.map (roCell p)).map (roCell q) = cs.map (roCell (or2 p q)) := by
 rw [List.map_map]; congr 1; funext c; exact roCell_or p q c
theorem roFV_or (p q : Nat → Nat → Bool) (x : FV Γ) : roFV q (roFV p x) = roFV (or2 p q) x := by
 cases x with
 | c x => simp only [roFV, roCell_or]
 | agg cs => simp only [roFV, roCells_or]
theorem roPt_or (p q : Nat → Nat → Bool) (x : Pt Γ) : roPt q (roPt p x) = roPt (or2 p q) x := by
 cases x with
 | ref cs => simp only [roPt, roCells_or]
 | _ => rfl
theorem roAV_or (p q : Nat → Nat → Bool) (x : AV Γ) : roAV q (roAV p x) = roAV (or2 p q) x := by
 cases x with
 | f x => simp only [roAV, roFV_or]
 | tup l => simp only [roAV, List.map_map]; congr 2; funext x; exact roFV_or p q x
 | p x => simp only [roAV, roPt_or]
 | clo f qs => simp only [roAV, List.map_map]; congr 2; funext x; exact roPt_or p q x
 | u => rfl

theorem St.ro_or (p q : Nat → Nat → Bool) (st : St Γ) : (st.ro p).ro q = st.ro (or2 p q) := by
 simp only [St.ro, List.map_map]
 congr 2
 ·funext x; simp only [Function.comp, roAV_or]
 ·funext x; simp only [Function.comp, roCells_or]

theorem ro_tm (p : Nat → Nat → Bool) (st : St Γ) (t : Nat) : tmGet (st.ro p).tm t = roAV p (tmGet st.tm t) := tmGet_map _ rfl _ _
theorem ro_bx (p : Nat → Nat → Bool) (st : St Γ) (s : Nat) : bxGet (st.ro p).bx s = (bxGet st.bx s).map fun x => (x.1, x.2.map (roCell p)) := bxGet_map _ _ _
theorem drop_tm (q : Nat → Bool) (st : St Γ) (t : Nat) : tmGet (st.drop q).tm t = noPt q q (tmGet st.tm t) := tmGet_map _ rfl _ _
theorem drop_bx (q : Nat → Bool) (st : St Γ) (s : Nat) : bxGet (st.drop q).bx s = bif q s then none else bxGet st.bx s := bxGet_filter q _ _

theorem Inv.ext_ro {st : St Γ} {a : Act} {w w' : World} {μ μ' : Mp} {p : Nat → Nat → Bool} (h : Inv base S w0 n st a w μ) (H : Ext base p no1 no1 μ w μ' w') (hm : MapsOK base μ' w') (hb : Below base w0 w') (hd : ∀ s, μ.ρ s = none → μ'.ρ s = none) : Inv base S w0 n (st.ro p) a w' μ' where
 maps := hm
 below := hb
 le := Nat.le_trans h.le H.size
 tm t := by
  rw [ro_tm]
  have := AVRep.ext H (fun s h => by cases h) (h.tm t)
  rwa [noPt_no] at this
 bx s T cs hs := by
  rw [ro_bx] at hs
  obtain ⟨x, hx, e⟩ := Option.map_eq_some_iff.1 hs
  obtain ⟨T', cs'⟩ := x
  cases e
  exact (h.bx s _ cs' hx).ext H rfl rfl
 dom s hs := by
  rw [ro_bx] at hs
  exact hd s (h.dom s (by cases hx : bxGet st.bx s with | none => rfl | some x => rw [hx] at hs; cases hs))
 defers := h.defers
 size := h.size

theorem ro_no (st : St Γ) : st.ro no2 = st := by
 cases st with
 | mk tm bx =>
  simp only [St.ro]
  congr 1
  ·rw [show (fun x : Nat × AV Γ => (x.1, roAV no2 x.2)) = id from funext fun x => by rw [roAV_no]; rfl, List.map_id]
  ·rw [show (fun x : Nat × Nat × List (Cell Γ) => (x.1, x.2.1, x.2.2.map (roCell no2))) = id from funext fun x => by rw [roCells_no]; rfl, List.map_id]

theorem Inv.put {st : St Γ} {a : Act} {w : World} {μ : Mp} (h : Inv base S w0 n st a w μ) {dst : Option Nat} {v : AV Γ} {y : Value} (hn : aops.dstIn n dst = true) (hv : AVRep base S μ w v y) : Inv base S w0 n ⟨putTm st.tm dst v, st.bx⟩ (a.put dst y) w μ := by
 cases dst with
 | none => exact h
 | some d =>
  have hd : d < a.tmps.size := by rw [h.size]; exact Nat.le_of_ble_eq_true hn
  refine ⟨h.maps, h.below, h.le, fun t => ?_, h.bx, h.dom, h.defers, by simp [Act.put, h.size]⟩
  rw [put_eval hd]
  simp only [putTm, tmGet]
  cases hb : Nat.beq d t with
  | true => obtain rfl := Nat.eq_of_beq_eq_true hb; simpa using hv
  | false =>
   have : t ≠ d := fun e => by subst e; rw [Nat.beq_refl] at hb; cases hb
   rw [if_neg this]
   exact h.tm t

theorem Inv.step {st : St Γ} {a : Act} {w w' : World} {μ μ' : Mp} (h : Inv base S w0 n st a w μ) {dst : Option Nat} {v : AV Γ} {eff : Eff Γ} {y : Value} (hn : aops.dstIn n dst = true) (H : OpPost base S w0 dst st.bx v eff w μ y w' μ') (hset : effOK st.bx eff = true) :
  Inv base S w0 n (st.upd dst v eff) (a.put dst y) w' μ' := by
 cases eff with
 | none =>
  have hx : Ext base no2 no1 no1 μ w μ' w' := H.ext
  have h1 := h.ext_ro hx H.maps H.below fun s hs => by
   rcases H.dom s hs with e | ⟨_, _, _, e⟩
   ·exact e
   ·cases e
  rw [ro_no] at h1
  exact h1.put hn H.val
 | fresh =>
  have h1 := h.ext_ro (p := isTok dst) H.ext H.maps H.below fun s hs => by
   rcases H.dom s hs with e | ⟨_, _, _, e⟩
   ·exact e
   ·cases e
  exact h1.put hn H.val
 | app o =>
  have h1 := h.ext_ro (p := pE dst (.app o : Eff Γ)) H.ext H.maps H.below fun s hs => by
   rcases H.dom s hs with e | ⟨_, _, _, e⟩
   ·exact e
   ·cases e
  cases o with
  | none =>
   have e : (pE dst (.app none : Eff Γ)) = isTok dst := by funext d j; simp [pE, hitTok]
   rw [e] at h1
   exact h1.put hn H.val
  | some t =>
   have e : (pE dst (.app (some t) : Eff Γ)) = or2 (isTok dst) (sameTok t) := by funext d j; simp [pE, hitTok, or2]
   rw [e, ← St.ro_or] at h1
   exact h1.put hn H.val
 | new T cs =>
  obtain ⟨d, rfl, hbox⟩ := H.new T cs rfl
  have hd : d < a.tmps.size := by rw [h.size]; exact Nat.le_of_ble_eq_true hn
  have hx : Ext base no2 (fun s => d.beq s) (fun s => d.beq s) μ w μ' w' := H.ext
  have hdom : ∀ s, d.beq s = false → μ.ρ s = none → μ'.ρ s = none := fun s hs hr => by
   rcases H.dom s hr with e | ⟨e, _⟩
   ·exact e
   ·cases e; rw [Nat.beq_refl] at hs; cases hs
  -- the state with the old box forgotten
  have main : ∀ st' : St Γ, (∀ t, AVRep base S μ' w' (tmGet st'.tm t) (a.eval (.tmp t))) → (∀ s, d.beq s = false → bxGet st'.bx s = bxGet st.bx s) → Inv base S w0 n ⟨(d, v) :: st'.tm, (d, T, cs) :: st'.bx⟩ (a.put (some d) y) w' μ' := by
   intro st' htm hbx
   refine ⟨H.maps, H.below, Nat.le_trans h.le hx.size, fun t => ?_, fun s T' cs' hs => ?_, fun s hs => ?_, h.defers, by simp [Act.put, h.size]⟩
   ·rw [put_eval hd]
    simp only [tmGet]
    cases hb : Nat.beq d t with
    | true => obtain rfl := Nat.eq_of_beq_eq_true hb; simpa using H.val
    | false =>
     have : t ≠ d := fun e => by subst e; rw [Nat.beq_refl] at hb; cases hb
     rw [if_neg this]
     exact htm t
   ·simp only [bxGet] at hs
    cases hb : Nat.beq d s with
    | true => obtain rfl := Nat.eq_of_beq_eq_true hb; rw [hb] at hs; cases hs; exact hbox
    | false =>
     rw [hb] at hs
     simp only [cond_false] at hs
     rw [hbx s hb] at hs
     have := (h.bx s T' cs' hs).ext hx hb hb
     rwa [roCells_no] at this
   ·simp only [bxGet] at hs
    cases hb : Nat.beq d s with
    | true => rw [hb] at hs; cases hs
    | false =>
     rw [hb] at hs
     simp only [cond_false] at hs
     rw [hbx s hb] at hs
     exact hdom s hb (h.dom s hs)
  have hval : ∀ t, AVRep base S μ' w' (noPt (fun s => d.beq s) (fun s => d.beq s) (tmGet st.tm t)) (a.eval (.tmp t)) := fun t => by
   have := AVRep.ext hx (fun s h => h) (h.tm t)
   rwa [roAV_no] at this
  simp only [St.upd]
  cases hh : bxHas st.bx d with
  | true =>
   simp only [cond_true]
   refine main (st.drop d.beq) (fun t => ?_) fun s hs => ?_
   ·rw [drop_tm]; exact hval t
   ·rw [drop_bx, hs]; rfl
  | false =>
   simp only [cond_false]
   refine main st (fun t => ?_) fun s hs => rfl
   have hnone := h.dom d (bxHas_get hh)
   have := hval t
   rwa [noPt_id (fun s hs => by obtain rfl := Nat.eq_of_beq_eq_true hs; exact hnone) (h.tm t)] at this
 | set s off cs =>
  have hx : Ext base no2 no1 (fun z => s.beq z) μ w μ' w' := H.ext
  simp only [effOK] at hset
  cases hb : bxGet st.bx s with
  | none => rw [hb] at hset; cases hset
  | some Told =>
   obtain ⟨T, old⟩ := Told
   have hbox := H.set s off cs rfl T old hb
   have hval : ∀ t, AVRep base S μ' w' (noPt (fun _ => false) (fun z => s.beq z) (tmGet st.tm t)) (a.eval (.tmp t)) := fun t => by
    have := AVRep.ext hx (fun s h => by cases h) (h.tm t)
    rwa [roAV_no] at this
   have main : ∀ tm' : Tm Γ, (∀ t, AVRep base S μ' w' (tmGet tm' t) (a.eval (.tmp t))) → Inv base S w0 n ⟨tm', bxSet st.bx s (setCells old off cs)⟩ a w' μ' := by
    intro tm' htm
    refine ⟨H.maps, H.below, Nat.le_trans h.le hx.size, htm, fun s' T' cs' hs => ?_, fun s' hs => ?_, h.defers, h.size⟩
    ·have hs : bxGet (bxSet st.bx s (setCells old off cs)) s' = some (T', cs') := hs
     rw [bxGet_set] at hs
     cases he : s.beq s' with
     | true => obtain rfl := Nat.eq_of_beq_eq_true he; rw [he, hb] at hs; cases hs; exact hbox
     | false =>
      rw [he] at hs
      have := (h.bx s' T' cs' hs).ext hx rfl he
      rwa [roCells_no] at this
    ·have hs : bxGet (bxSet st.bx s (setCells old off cs)) s' = none := hs
     rw [bxGet_set] at hs
     have hn : μ.ρ s' = none := by
      cases he : s.beq s' with
      | true => obtain rfl := Nat.eq_of_beq_eq_true he; rw [he, hb] at hs; cases hs
      | false => rw [he] at hs; exact h.dom s' hs
     rcases H.dom s' hn with e | ⟨_, _, _, e⟩
     ·exact e
     ·cases e
   simp only [St.upd, hb]
   cases hT : (Γ.td T).isArr with
   | true =>
    simp only [cond_true]
    exact (main _ fun t => by rw [tmGet_map _ rfl]; exact hval t).put (v := .u) hn trivial
   | false =>
    simp only [cond_false]
    exact (main _ fun t => by have := hval t; rwa [noIx_id (h.bx s T old hb) hT (h.tm t)] at this).put (v := .u) hn trivial

theorem Inv.putB {st : St Γ} {a : Act} {w : World} {μ : Mp} (h : Inv base S w0 n st a w μ) {t : Nat} {b : Bool} (hb : a.eval (.tmp t) = .bool b) : Inv base S w0 n (putB st t b) a w μ := by
 refine ⟨h.maps, h.below, h.le, fun t' => ?_, h.bx, h.dom, h.defers, h.size⟩
 simp only [Refl.putB, tmGet]
 cases he : Nat.beq t t' with
 | true => obtain rfl := Nat.eq_of_beq_eq_true he; exact hb
 | false => exact h.tm t'

theorem condT_inv {R : Type} {t : Nat} {st : St Γ} {A B : St Γ → Option R} {r : R} (h : condT t st A B = some r) {a : Act} {w : World} {μ : Mp} (hi : AVRep base S μ w (tmGet st.tm t) (a.eval (.tmp t))) :
  ∃ b : Bool, a.eval (.tmp t) = .bool b ∧ (if b = true then A (putB st t true) else B (putB st t false)) = some r := by
 unfold condT at h
 split at h
 ·rename_i b hb
  rw [hb] at hi
  exact ⟨b, hi, h⟩
 ·rename_i b q i hh hb
  rw [hb] at hi
  refine ⟨b, hi, ?_⟩
  subst hh
  by_cases hq : q
  ·simpa [hq] using h
  ·simpa [hq] using h
 ·rename_i b q i hh hb
  rw [hb] at hi
  refine ⟨b, hi, ?_⟩
  subst hh
  by_cases hq : q
  ·simpa [hq] using h
  ·simpa [hq] using h
 ·cases h

theorem condT_inv' {R : Type} {t : Nat} {st : St Γ} {A B : St Γ → Option R} {r : R} (h : condT t st A B = some r) :
  ∃ b : Bool, (∀ base S μ w y, AVRep base S μ w (tmGet st.tm t) y → y = .bool b) ∧ (if b = true then A (putB st t true) else B (putB st t false)) = some r := by
 unfold condT at h
 split at h
 ·rename_i b hb
  exact ⟨b, fun _ _ _ _ _ hi => by rw [hb] at hi; exact hi, h⟩
 ·rename_i b q i hh hb
  refine ⟨b, fun _ _ _ _ _ hi => by rw [hb] at hi; exact hi, ?_⟩
  subst hh
  by_cases hq : q
  ·simpa [hq] using h
  ·simpa [hq] using h
 ·rename_i b q i hh hb
  refine ⟨b, fun _ _ _ _ _ hi => by rw [hb] at hi; exact hi, ?_⟩
  subst hh
  by_cases hq : q
  ·simpa [hq] using h
  ·simpa [hq] using h
 ·cases h

def yb : Value → Option Bool
 | .bool b => some b
 | _ => none

theorem yb_some {y : Value} {b : Bool} (h : yb y = some b) : y = .bool b := by
 cases y with
 | bool b' => cases h; rfl
 | _ => cases h

theorem condG_inv {R : Type} {want : Bool} {t : Nat} {st : St Γ} {yes no : St Γ → Option R} {r : R} (h : condG want t st yes no = some r) :
  ∃ (yv : Option Bool) (st' : St Γ), (∀ base S μ w y, AVRep base S μ w (tmGet st.tm t) y → yb y = yv) ∧ (st' = st ∨ ∃ b, yv = some b ∧ st' = putB st t b) ∧ (if (yv == some want) = true then yes st' else no st') = some r := by
 unfold condG at h
 split at h
 ·rename_i hu
  exact ⟨none, st, fun _ _ _ _ y hy => by rw [hu] at hy; rw [show y = .tuple ⟨[]⟩ from hy]; rfl, .inl rfl, h⟩
 ·split at h
  ·obtain ⟨b, hb, hh⟩ := condT_inv' h
   refine ⟨some b, _, fun _ _ _ _ y hy => by rw [hb _ _ _ _ y hy]; rfl, .inr ⟨b, rfl, rfl⟩, ?_⟩
   cases b <;> simpa using hh
  ·obtain ⟨b, hb, hh⟩ := condT_inv' h
   refine ⟨some b, _, fun _ _ _ _ y hy => by rw [hb _ _ _ _ y hy]; rfl, .inr ⟨b, rfl, rfl⟩, ?_⟩
   cases b <;> simpa using hh

theorem eval_getD (a : Act) (t : Nat) : a.eval (.tmp t) = a.tmps.getD t undef := rfl

theorem yielded_yb {ops : List Oper} {j t : Nat} (ht : dstOf ops j = some t) {a : Act} : yielded ops.toArray a.tmps j = yb (a.eval (.tmp t)) := by
 have hnth : ∀ (l : List Oper) (j : Nat), nth l j = l[j]? := by
  intro l
  induction l with
  | nil => intro j; simp [nth]
  | cons x l ih => intro j; cases j <;> simp [nth, ih]
 unfold dstOf at ht
 rw [hnth] at ht
 split at ht
 ·rename_i o ho
  have ho' : ops.toArray[j]? = some o := by simpa using ho
  simp only [yielded, ho', Option.bind_some, ht, Act.eval, Array.getD_eq_getD_getElem?]
  cases hx : a.tmps[t]? with
  | none => rfl
  | some v => cases v <;> rfl
 ·cases ht

theorem aop_step {R : Type} (C : CtxOK P Γ) {E : List (Ent Γ)} (hE : ∀ e ∈ E, EntOK P e) {all : List Oper} {Q : Exit → Act → World → Prop} {Nx : Act → World → Prop} {o : Oper} {l : List Oper} {i : Nat} {st : St Γ} {K : St Γ → Option R} {r : R} {a : Act} {w : World} {μ : Mp}
  (ho : all[i]? = some o) (h : aops n E all (o :: l) st K = some r) (hi : Inv base S w0 n st a w μ) (hN : ∀ st' a' w' μ', Inv base S w0 n st' a' w' μ' → aops n E all l st' K = some r → Nx a' w') : wpOp P all.toArray Q i Nx a w := by
 have ho : all.toArray[i]? = some o := by simpa using ho
 rw [aops] at h
 cases hdn : aops.dstIn n o.dst with
 | false => simp [hdn] at h
 | true =>
  simp only [hdn, cond_true] at h
  unfold wpOp
  rw [ho]
  simp only
  have yes : ∀ st1 : St Γ, Inv base S w0 n st1 a w μ → (evalOp E st1.tm st1.bx o fun v eff => bif effOK st1.bx eff then aops n E all l (st1.upd o.dst v eff) K else none) = some r → o.wp P a w Nx Q := by
   intro st1 hi1 hev
   obtain ⟨v, eff, hk, hs⟩ := evalOp_sound (P := P) C hE hev
   cases he : effOK st1.bx eff with
   | false => simp [he] at hk
   | true =>
    simp only [he, cond_true] at hk
    exact hs he base S w0 a w μ (hi1.pre o) _ Q fun y w' μ' H => hN _ _ w' μ' (hi1.step hdn H he) hk
  have no : ∀ st1 : St Γ, Inv base S w0 n st1 a w μ → aops n E all l (st1.upd o.dst skipAV .none) K = some r → Nx (a.put o.dst undef) w := by
   intro st1 hi1 hev
   exact hN _ _ w μ (hi1.put (v := skipAV) hdn rfl) hev
  cases hg : o.guard with
  | none =>
   rw [hg] at h
   have hw : Region.wanted o (yielded all.toArray a.tmps) = true := by simp [Region.wanted, hg]
   rw [if_pos hw]
   exact .inl (yes st hi h)
  | some gw =>
   obtain ⟨j, want⟩ := gw
   rw [hg] at h
   simp only at h
   split at h
   ·rename_i t ht
    obtain ⟨yv, st', g1, g2, g3⟩ := condG_inv h
    have hy : yb (a.eval (.tmp t)) = yv := g1 _ _ _ _ _ (hi.tm t)
    have hi' : Inv base S w0 n st' a w μ := by
     rcases g2 with rfl | ⟨b, rfl, rfl⟩
     ·exact hi
     ·exact hi.putB (yb_some hy)
    have hw : Region.wanted o (yielded all.toArray a.tmps) = (yv == some want) := by simp only [Region.wanted, hg, yielded_yb ht, hy]
    rw [hw]
    cases hq : (yv == some want) with
    | true => rw [hq] at g3; simp only [if_true] at g3 ⊢; exact .inl (yes _ hi' g3)
    | false => rw [hq] at g3; simp only [Bool.false_eq_true, if_false] at g3 ⊢; exact no _ hi' g3
   ·cases h

theorem aops_sound {R : Type} (C : CtxOK P Γ) {E : List (Ent Γ)} (hE : ∀ e ∈ E, EntOK P e) {all : List Oper} {Q : Exit → Act → World → Prop} : ∀ (l : List Oper) (is : List Nat) (st : St Γ) (K : St Γ → Option R) (r : R) (a : Act) (w : World) (μ : Mp),
  is.length = l.length → (∀ (j i : Nat), is[j]? = some i → all[i]? = l[j]?) → aops n E all l st K = some r → Inv base S w0 n st a w μ →
  (∀ st' a' w' μ', Inv base S w0 n st' a' w' μ' → K st' = some r → Q .normal a' w') → wpOps P all.toArray Q is a w
 | [], is, st, K, r, a, w, μ, hl, _, h, hi, hQ => by
  have : is = [] := List.eq_nil_of_length_eq_zero hl
  subst this
  exact hQ st a w μ hi h
 | o :: l, [], _, _, _, _, _, _, hl, _, _, _, _ => by simp at hl
 | o :: l, i :: is, st, K, r, a, w, μ, hl, hix, h, hi, hQ => by
  rw [wpOps_cons]
  exact aop_step C hE (by have := hix 0 i rfl; simpa using this) h hi fun st' a' w' μ' hi' h' => aops_sound C hE l is st' K r a' w' μ' (by simpa using hl) (fun j i' hj => hix (j + 1) i' (by simpa using hj)) h' hi' hQ

end

section
variable {Γ : Ctx} {P : Program} {base : Nat} {S : Nat → Nat → Prop} {w0 : World} {n : Nat}

structure HRec (Γ : Ctx) where
 run : Bool
 utm : Tm Γ
 tm : Tm Γ
 v : AV Γ
 eff : Eff Γ

def Imp (x y : AV Γ) : Prop := ∀ base S μ w val, AVRep base S μ w x val → AVRep base S μ w y val

def quietEff (dst : Option Nat) : Eff Γ → Prop
 | .none => True
 | .fresh => True
 | .app none => True
 | .new _ _ => ∃ d, dst = some d
 | _ => False

structure RecOK (P : Program) (n : Nat) (all : List Oper) (bx0 : Bx Γ) (o : Oper) (r : HRec Γ) : Prop where
 dst : aops.dstIn n o.dst = true
 imp : ∀ t, Imp (tmGet r.utm t) (tmGet r.tm t)
 guard : match o.guard with
  | none => r.run = true
  | some (j, want) => ∃ t yv, dstOf all j = some t ∧ (∀ base S μ w y, AVRep base S μ w (tmGet r.utm t) y → yb y = yv) ∧ r.run = (yv == some want)
 yes : r.run = true → OpSem P o r.tm bx0 r.v r.eff ∧ quietEff o.dst r.eff
 no : r.run = false → r.v = skipAV ∧ r.eff = .none

def nbPut (dst : Option Nat) (eff : Eff Γ) (nb : Bx Γ) : Bx Γ :=
 match eff, dst with
 | .new T cs, some d => (d, T, cs) :: nb
 | _, _ => nb

def Chain (P : Program) (n : Nat) (all : List Oper) (bx0 : Bx Γ) : List Oper → Tm Γ → Bx Γ → List (HRec Γ) → Tm Γ → Bx Γ → Prop
 | [], utm, nb, [], utm', nb' => utm' = utm ∧ nb' = nb
 | o :: l, utm, nb, r :: rs, utm', nb' => r.utm = utm ∧ RecOK P n all bx0 o r ∧ Chain P n all bx0 l (putTm utm o.dst r.v) (nbPut o.dst r.eff nb) rs utm' nb'
 | _, _, _, _, _, _ => False

theorem imp_putB {utm tm : Tm Γ} {nb : Bx Γ} {t : Nat} {b : Bool} (hi : ∀ t, Imp (tmGet utm t) (tmGet tm t)) (hb : ∀ base S μ w y, AVRep (Γ := Γ) base S μ w (tmGet utm t) y → y = .bool b) : ∀ t', Imp (tmGet utm t') (tmGet (putB ⟨tm, nb⟩ t b).tm t') := by
 intro t' base S μ w val h
 simp only [putB, tmGet]
 cases he : Nat.beq t t' with
 | true => obtain rfl := Nat.eq_of_beq_eq_true he; exact hb _ _ _ _ _ h
 | false => exact hi t' _ _ _ _ _ h

theorem imp_put {utm tm : Tm Γ} {d : Option Nat} {v : AV Γ} (hi : ∀ t, Imp (tmGet utm t) (tmGet tm t)) : ∀ t, Imp (tmGet (putTm utm d v) t) (tmGet (putTm tm d v) t) := by
 intro t
 cases d with
 | none => exact hi t
 | some d =>
  simp only [putTm, tmGet]
  cases Nat.beq d t with
  | true => exact fun _ _ _ _ _ h => h
  | false => exact hi t

theorem ahead_inv {R : Type} (C : CtxOK P Γ) {E : List (Ent Γ)} (hE : ∀ e ∈ E, EntOK P e) {all : List Oper} {bx0 : Bx Γ} : ∀ (l : List Oper) (utm tm : Tm Γ) (nb : Bx Γ) (K : St Γ → Option R) (r : R), (∀ t, Imp (tmGet utm t) (tmGet tm t)) → ahead n E all bx0 l tm nb K = some r →
  ∃ (rs : List (HRec Γ)) (utm' tm' : Tm Γ) (nb' : Bx Γ), Chain P n all bx0 l utm nb rs utm' nb' ∧ (∀ t, Imp (tmGet utm' t) (tmGet tm' t)) ∧ K ⟨tm', nb' ++ bx0⟩ = some r
 | [], utm, tm, nb, K, r, hi, h => ⟨[], utm, tm, nb, ⟨rfl, rfl⟩, hi, h⟩
 | o :: l, utm, tm, nb, K, r, hi, h => by
  rw [ahead] at h
  cases hdn : aops.dstIn n o.dst with
  | false => simp [hdn] at h
  | true =>
   simp only [hdn, cond_true] at h
   have go : ∀ (run : Bool) (tm1 : Tm Γ) (v : AV Γ) (eff : Eff Γ), (∀ t, Imp (tmGet utm t) (tmGet tm1 t)) →
     (match o.guard with | none => run = true | some (j, want) => ∃ t yv, dstOf all j = some t ∧ (∀ base S μ w y, AVRep (Γ := Γ) base S μ w (tmGet utm t) y → yb y = yv) ∧ run = (yv == some want)) →
     (run = true → OpSem P o tm1 bx0 v eff ∧ quietEff o.dst eff) → (run = false → v = skipAV ∧ eff = .none) → ahead n E all bx0 l (putTm tm1 o.dst v) (nbPut o.dst eff nb) K = some r →
     ∃ (rs : List (HRec Γ)) (utm' tm' : Tm Γ) (nb' : Bx Γ), Chain P n all bx0 (o :: l) utm nb rs utm' nb' ∧ (∀ t, Imp (tmGet utm' t) (tmGet tm' t)) ∧ K ⟨tm', nb' ++ bx0⟩ = some r := by
    intro run tm1 v eff h1 h2 h3 h4 h5
    obtain ⟨rs, utm', tm', nb', g1, g2, g3⟩ := ahead_inv C hE l (putTm utm o.dst v) _ _ K r (imp_put h1) h5
    exact ⟨⟨run, utm, tm1, v, eff⟩ :: rs, utm', tm', nb', ⟨rfl, ⟨hdn, h1, h2, h3, h4⟩, g1⟩, g2, g3⟩
   have yes : ∀ tm1 : Tm Γ, (∀ t, Imp (tmGet utm t) (tmGet tm1 t)) → (match o.guard with | none => True | some (j, want) => ∃ t, dstOf all j = some t ∧ (∀ base S μ w y, AVRep (Γ := Γ) base S μ w (tmGet utm t) y → yb y = some want)) →
     (evalOp E tm1 bx0 o fun v eff => match eff with
      | .none => ahead n E all bx0 l (putTm tm1 o.dst v) nb K
      | .fresh => ahead n E all bx0 l (putTm tm1 o.dst v) nb K
      | .app none => ahead n E all bx0 l (putTm tm1 o.dst v) nb K
      | .new T cs => match o.dst with
       | some d => ahead n E all bx0 l ((d, v) :: tm1) ((d, T, cs) :: nb) K
       | none => none
      | _ => none) = some r →
     ∃ (rs : List (HRec Γ)) (utm' tm' : Tm Γ) (nb' : Bx Γ), Chain P n all bx0 (o :: l) utm nb rs utm' nb' ∧ (∀ t, Imp (tmGet utm' t) (tmGet tm' t)) ∧ K ⟨tm', nb' ++ bx0⟩ = some r := by
    intro tm1 h1 h2 h3
    obtain ⟨v, eff, hk, hs⟩ := evalOp_sound (P := P) C hE h3
    have hguard : (match o.guard with | none => true = true | some (j, want) => ∃ t yv, dstOf all j = some t ∧ (∀ base S μ w y, AVRep (Γ := Γ) base S μ w (tmGet utm t) y → yb y = yv) ∧ true = (yv == some want)) := by
     split
     ·rfl
     ·rename_i j want hg
      rw [hg] at h2
      obtain ⟨t, e1, e2⟩ := h2
      exact ⟨t, some want, e1, e2, by simp⟩
    cases eff with
    | none => exact go true tm1 v .none h1 hguard (fun _ => ⟨hs rfl, trivial⟩) (fun e => by cases e) hk
    | fresh => exact go true tm1 v .fresh h1 hguard (fun _ => ⟨hs rfl, trivial⟩) (fun e => by cases e) hk
    | app o' =>
     cases o' with
     | none => exact go true tm1 v (.app none) h1 hguard (fun _ => ⟨hs rfl, trivial⟩) (fun e => by cases e) hk
     | some t => cases hk
    | new T cs =>
     simp only at hk
     split at hk
     ·rename_i d hd
      refine go true tm1 v (.new T cs) h1 hguard (fun _ => ⟨hs rfl, d, hd⟩) (fun e => by cases e) ?_
      rw [hd]
      exact hk
     ·cases hk
    | set s off cs => cases hk
   cases hg : o.guard with
   | none =>
    rw [hg] at h
    exact yes tm hi (by rw [hg]; trivial) h
   | some gw =>
    obtain ⟨j, want⟩ := gw
    rw [hg] at h
    simp only at h
    split at h
    ·rename_i t ht
     obtain ⟨yv, st', g1, g2, g3⟩ := condG_inv h
     have g1' : ∀ base S μ w y, AVRep (Γ := Γ) base S μ w (tmGet utm t) y → yb y = yv := fun _ _ _ _ y hy => g1 _ _ _ _ y (hi t _ _ _ _ _ hy)
     have hi' : ∀ t, Imp (tmGet utm t) (tmGet st'.tm t) := by
      rcases g2 with rfl | ⟨b, rfl, rfl⟩
      ·exact hi
      ·exact imp_putB hi (fun _ _ _ _ y hy => yb_some (g1' _ _ _ _ y hy))
     cases hq : (yv == some want) with
     | true =>
      rw [hq] at g3
      simp only [if_true] at g3
      obtain rfl : yv = some want := by simpa using hq
      exact yes _ hi' (by rw [hg]; exact ⟨t, ht, g1'⟩) g3
     | false =>
      rw [hq] at g3
      simp only [Bool.false_eq_true, if_false] at g3
      exact go false st'.tm skipAV .none hi' (by rw [hg]; exact ⟨t, yv, ht, g1', hq.symm⟩) (fun e => by cases e) (fun _ => ⟨rfl, rfl⟩) g3
    ·cases h

end

section
variable {Γ : Ctx} {P : Program} {base : Nat} {S : Nat → Nat → Prop} {w0 : World} {n : Nat}

def utmAt : List Oper → List (HRec Γ) → Tm Γ → Nat → Tm Γ
 | o :: l, r :: rs, utm, k + 1 => utmAt l rs (putTm utm o.dst r.v) k
 | _, _, utm, _ => utm

theorem chain_len {all : List Oper} {bx0 : Bx Γ} : ∀ {l : List Oper} {utm : Tm Γ} {nb : Bx Γ} {rs : List (HRec Γ)} {utm' : Tm Γ} {nb' : Bx Γ}, Chain P n all bx0 l utm nb rs utm' nb' → rs.length = l.length
 | [], _, _, [], _, _, _ => rfl
 | _ :: _, _, _, _ :: _, _, _, h => congrArg (· + 1) (chain_len h.2.2)
 | [], _, _, _ :: _, _, _, h => h.elim
 | _ :: _, _, _, [], _, _, h => h.elim

theorem chain_get {all : List Oper} {bx0 : Bx Γ} : ∀ {l : List Oper} {utm : Tm Γ} {nb : Bx Γ} {rs : List (HRec Γ)} {utm' : Tm Γ} {nb' : Bx Γ}, Chain P n all bx0 l utm nb rs utm' nb' → ∀ (k : Nat) (o : Oper), l[k]? = some o → ∃ r, rs[k]? = some r ∧ RecOK P n all bx0 o r ∧ r.utm = utmAt l rs utm k
 | o :: l, utm, nb, r :: rs, utm', nb', h, 0, o', hk => by
  simp at hk; subst hk
  exact ⟨r, rfl, h.2.1, h.1⟩
 | o :: l, utm, nb, r :: rs, utm', nb', h, k + 1, o', hk => by
  obtain ⟨r', h1, h2, h3⟩ := chain_get h.2.2 k o' (by simpa using hk)
  exact ⟨r', by simpa using h1, h2, h3⟩
 | [], _, _, _, _, _, _, k, o, hk => by simp at hk
 | _ :: _, _, _, [], _, _, h, _, _, _ => h.elim

theorem chain_end {all : List Oper} {bx0 : Bx Γ} : ∀ {l : List Oper} {utm : Tm Γ} {nb : Bx Γ} {rs : List (HRec Γ)} {utm' : Tm Γ} {nb' : Bx Γ}, Chain P n all bx0 l utm nb rs utm' nb' → utm' = utmAt l rs utm l.length
 | [], _, _, [], _, _, h => h.1
 | o :: l, utm, nb, r :: rs, utm', nb', h => by
  have h2 := chain_end h.2.2
  exact h2
 | [], _, _, _ :: _, _, _, h => h.elim
 | _ :: _, _, _, [], _, _, h => h.elim

theorem chain_nb {all : List Oper} {bx0 : Bx Γ} : ∀ {l : List Oper} {utm : Tm Γ} {nb : Bx Γ} {rs : List (HRec Γ)} {utm' : Tm Γ} {nb' : Bx Γ}, Chain P n all bx0 l utm nb rs utm' nb' → ∀ (s : Nat),
  (∀ T cs, bxGet nb' s = some (T, cs) → bxGet nb s = some (T, cs) ∨ ∃ (i : Nat) (o : Oper) (r : HRec Γ), l[i]? = some o ∧ rs[i]? = some r ∧ o.dst = some s ∧ r.eff = .new T cs) ∧
  (bxGet nb' s = none → bxGet nb s = none ∧ ∀ (i : Nat) (o : Oper) (r : HRec Γ) (T : Nat) (cs : List (Cell Γ)), l[i]? = some o → rs[i]? = some r → o.dst = some s → r.eff ≠ .new T cs)
 | [], _, _, [], _, _, h, s => by
  obtain ⟨_, rfl⟩ := h
  exact ⟨fun T cs h => .inl h, fun h => ⟨h, fun i o r T cs hi => by simp at hi⟩⟩
 | o :: l, utm, nb, r :: rs, utm', nb', h, s => by
  obtain ⟨h1, h2⟩ := chain_nb h.2.2 s
  have hput : ∀ T cs, bxGet (nbPut o.dst r.eff nb) s = some (T, cs) → bxGet nb s = some (T, cs) ∨ (o.dst = some s ∧ r.eff = .new T cs) := by
   intro T cs hh
   unfold nbPut at hh
   split at hh
   ·rename_i T' cs' d he hd
    simp only [bxGet] at hh
    cases hb : Nat.beq d s with
    | true => obtain rfl := Nat.eq_of_beq_eq_true hb; rw [hb] at hh; cases hh; exact .inr ⟨hd, he⟩
    | false => rw [hb] at hh; exact .inl hh
   ·exact .inl hh
  refine ⟨fun T cs hh => ?_, fun hh => ?_⟩
  ·rcases h1 T cs hh with h3 | ⟨i, o', r', e1, e2, e3, e4⟩
   ·rcases hput T cs h3 with h4 | ⟨e1, e2⟩
    ·exact .inl h4
    ·exact .inr ⟨0, o, r, rfl, rfl, e1, e2⟩
   ·exact .inr ⟨i + 1, o', r', by simpa using e1, by simpa using e2, e3, e4⟩
  ·obtain ⟨h3, h4⟩ := h2 hh
   have hno : bxGet nb s = none ∧ ∀ T cs, o.dst = some s → r.eff ≠ .new T cs := by
    unfold nbPut at h3
    split at h3
    ·rename_i T' cs' d he hd
     simp only [bxGet] at h3
     cases hb : Nat.beq d s with
     | true => rw [hb] at h3; cases h3
     | false =>
      rw [hb] at h3
      refine ⟨h3, fun T cs e => ?_⟩
      rw [hd] at e; cases e
      rw [Nat.beq_refl] at hb; cases hb
    ·rename_i hne
     exact ⟨h3, fun T cs e e' => hne _ _ _ e' e⟩
   refine ⟨hno.1, fun i o' r' T cs e1 e2 e3 => ?_⟩
   cases i with
   | zero => simp at e1 e2; subst e1 e2; exact hno.2 T cs e3
   | succ i => exact h4 i o' r' T cs (by simpa using e1) (by simpa using e2) e3
 | [], _, _, _ :: _, _, _, h, _ => h.elim
 | _ :: _, _, _, [], _, _, h, _ => h.elim

theorem utm_none : ∀ (l : List Oper) (rs : List (HRec Γ)) (utm : Tm Γ) (k t : Nat), (∀ (i : Nat) (o : Oper), i < k → l[i]? = some o → o.dst ≠ some t) → tmGet (utmAt l rs utm k) t = tmGet utm t
 | [], _, _, _, _, _ => by simp [utmAt]
 | _ :: _, [], _, _, _, _ => by simp [utmAt]
 | o :: l, r :: rs, utm, 0, t, _ => rfl
 | o :: l, r :: rs, utm, k + 1, t, h => by
  rw [utmAt, utm_none l rs _ k t fun i o' hi ho => h (i + 1) o' (by omega) (by simpa using ho)]
  have := h 0 o (by omega) rfl
  cases hd : o.dst with
  | none => rfl
  | some d =>
   simp only [putTm, tmGet]
   cases hb : Nat.beq d t with
   | true => rw [Nat.eq_of_beq_eq_true hb] at hd; exact absurd hd this
   | false => rfl

theorem utm_some : ∀ (l : List Oper) (rs : List (HRec Γ)) (utm : Tm Γ) (k t i : Nat) (o : Oper) (r : HRec Γ), i < k → l[i]? = some o → rs[i]? = some r → o.dst = some t → (∀ (j : Nat) (o' : Oper), l[j]? = some o' → o'.dst = some t → j = i) → tmGet (utmAt l rs utm k) t = r.v
 | [], _, _, _, _, _, _, _, _, h, _, _, _ => by simp at h
 | _ :: _, [], _, _, _, _, _, _, _, _, h, _, _ => by simp at h
 | _ :: _, _ :: _, _, 0, _, _, _, _, h, _, _, _, _ => by omega
 | o :: l, r :: rs, utm, k + 1, t, i, o', r', hi, ho, hr, hd, hu => by
  rw [utmAt]
  cases i with
  | zero =>
   simp at ho hr
   subst ho hr
   rw [utm_none l rs _ k t fun j o' _ ho' e => by have := hu (j + 1) o' (by simpa using ho') e; omega]
   rw [hd]
   simp [putTm, tmGet, Nat.beq_refl]
  | succ i =>
   exact utm_some l rs _ k t i o' r' (by omega) (by simpa using ho) (by simpa using hr) hd fun j o'' h1 h2 => by have := hu (j + 1) o'' (by simpa using h1) h2; omega


theorem okAt_get {o : Oper} {j : Nat} : ∀ (h : List Oper) (i0 : Nat), headOK1.okAt o j h i0 = true → ∀ (i : Nat) (x : Oper) (d : Nat), h[i]? = some x → x.dst = some d → (d ∈ opTmps o → onAll o (i0 + i) = true ∧ i0 + i < j) ∧ (i0 + i = j ∨ o.dst ≠ some d)
 | [], _, _, i, _, _, hx, _ => by simp at hx
 | y :: h, i0, hok, i, x, d, hx, hd => by
  simp only [headOK1.okAt, Bool.and_eq_true] at hok
  cases i with
  | zero =>
   simp at hx; subst hx
   rw [hd] at hok
   simp only [Bool.and_eq_true, Bool.or_eq_true, Bool.not_eq_true'] at hok
   obtain ⟨⟨h1, h2⟩, _⟩ := hok
   refine ⟨fun hm => ?_, ?_⟩
   ·rcases h1 with h1 | ⟨h1, h1'⟩
    ·simp [List.contains_eq_mem, hm] at h1
    ·exact ⟨h1, Nat.le_of_ble_eq_true h1'⟩
   ·rcases h2 with h2 | h2
    ·exact .inl (Nat.eq_of_beq_eq_true h2)
    ·refine .inr fun e => ?_
     rw [e] at h2
     simp [Nat.beq_refl] at h2
  | succ i =>
   have := okAt_get h (i0 + 1) hok.2 i x d (by simpa using hx) hd
   rwa [show i0 + 1 + i = i0 + (i + 1) by omega] at this

theorem headOK_get {h : List Oper} : ∀ (l : List Oper) (j0 : Nat), headOK h l j0 = true → ∀ (j : Nat) (o : Oper), l[j]? = some o → headOK1 h o (j0 + j) = true ∧ backOK o (j0 + j) = true
 | [], _, _, j, _, ho => by simp at ho
 | o :: l, j0, hok, j, o', ho => by
  simp only [headOK, Bool.and_eq_true] at hok
  cases j with
  | zero => simp at ho; subst ho; exact hok.1
  | succ j =>
   have := headOK_get l (j0 + 1) hok.2 j o' (by simpa using ho)
   rwa [show j0 + 1 + j = j0 + (j + 1) by omega] at this

structure HeadFacts (head : List Oper) : Prop where
 dist : ∀ (i j : Nat) (o o' : Oper) (d : Nat), head[i]? = some o → head[j]? = some o' → o.dst = some d → o'.dst = some d → i = j
 deps : ∀ (k i : Nat) (o x : Oper) (d : Nat), head[k]? = some o → head[i]? = some x → x.dst = some d → d ∈ opTmps o → onAll o i = true ∧ i < k
 guard : ∀ (k : Nat) (o : Oper) (g : Nat) (b : Bool), head[k]? = some o → o.guard = some (g, b) → onAll o g = true ∧ g < k
 back : ∀ (k : Nat) (o : Oper), head[k]? = some o → backOK o k = true

theorem headFacts {head : List Oper} (h : headOK head head 0 = true) : HeadFacts head := by
 have key : ∀ (j : Nat) (o : Oper), head[j]? = some o → headOK1 head o j = true ∧ backOK o j = true := fun j o ho => by
  have := headOK_get head 0 h j o ho
  rwa [Nat.zero_add] at this
 have split : ∀ (j : Nat) (o : Oper), head[j]? = some o → headOK1.okAt o j head 0 = true ∧ (match o.guard with | none => true | some (g, _) => (onAll o g).and (g.blt j)) = true := fun j o ho => by
  have := (key j o ho).1
  simp only [headOK1, Bool.and_eq_true] at this
  exact this.2
 refine ⟨fun i j o o' d hi hj hd hd' => ?_, fun k i o x d hk hi hd hm => ?_, fun k o g b hk hg => ?_, fun k o hk => (key k o hk).2⟩
 ·have := (okAt_get head 0 (split j o' hj).1 i o d hi hd).2
  rw [Nat.zero_add] at this
  rcases this with e | e
  ·exact e
  ·exact absurd hd' e
 ·have := (okAt_get head 0 (split k o hk).1 i x d hi hd).1 hm
  rwa [Nat.zero_add] at this
 ·have := (split k o hk).2
  rw [hg] at this
  simp only [Bool.and_eq_true] at this
  exact ⟨this.1, Nat.le_of_ble_eq_true this.2⟩

structure DInv (base : Nat) (S : Nat → Nat → Prop) (w0 : World) (n : Nat) (head : List Oper) (rs : List (HRec Γ)) (tm0 : Tm Γ) (bx0 : Bx Γ) (L : Nat → Bool) (a : Act) (w : World) (μ : Mp) : Prop where
 maps : MapsOK base μ w
 below : Below base w0 w
 le : base ≤ w.heap.size
 defers : a.defers = []
 size : a.tmps.size = n
 done : ∀ (i : Nat) (o : Oper) (r : HRec Γ), head[i]? = some o → rs[i]? = some r → L i = true → (∀ d, o.dst = some d → AVRep base S μ w r.v (a.eval (.tmp d))) ∧ ∀ T cs d, r.eff = .new T cs → o.dst = some d → BoxRep base S μ w d T cs
 rest : ∀ t, (∀ (i : Nat) (o : Oper), head[i]? = some o → o.dst = some t → L i = false) → AVRep base S μ w (tmGet tm0 t) (a.eval (.tmp t))
 bx : ∀ s T cs, bxGet bx0 s = some (T, cs) → BoxRep base S μ w s T cs
 dom : ∀ s, bxGet bx0 s = none → (∀ (i : Nat) (o : Oper) (r : HRec Γ) (T : Nat) (cs : List (Cell Γ)), head[i]? = some o → rs[i]? = some r → L i = true → o.dst = some s → r.eff ≠ .new T cs) → μ.ρ s = none
 tok : ∀ (i : Nat) (o : Oper) (d j : Nat), head[i]? = some o → o.dst = some d → L i = false → μ.τ d j = none

theorem Ext.strong {p : Nat → Nat → Bool} {q i : Nat → Bool} {μ μ' : Mp} {w w' : World} (H : Ext base p q i μ w μ' w') (hp : ∀ d j, p d j = true → μ.τ d j = none) (hq : ∀ s, q s = true → μ.ρ s = none) (hi : ∀ s, i s = true → μ.ρ s = none) : Ext base no2 no1 no1 μ w μ' w' where
 size := H.size
 cell := H.cell
 stab := H.stab
 box s g _ h := by
  cases hs : q s with
  | false => exact H.box s g hs h
  | true => rw [hq s hs] at h; cases h
 hbox s g _ _ h := by
  cases hs : q s with
  | true => rw [hq s hs] at h; cases h
  | false =>
   cases hs' : i s with
   | true => rw [hi s hs'] at h; cases h
   | false => exact H.hbox s g hs hs' h
 tok d j v _ h := by
  cases hs : p d j with
  | false => exact H.tok d j v hs h
  | true => rw [hp d j hs] at h; cases h
 htok d j g u _ h := by
  cases hs : p d j with
  | false => exact H.htok d j g u hs h
  | true => rw [hp d j hs] at h; cases h

theorem dstep {all head : List Oper} {bx0 : Bx Γ} {tm0 utm' : Tm Γ} {nb' : Bx Γ} {rs : List (HRec Γ)} (F : HeadFacts head) (hall : ∀ (i : Nat) (o : Oper), head[i]? = some o → all[i]? = some o) (hch : Chain P n all bx0 head tm0 [] rs utm' nb')
  (hfree : ∀ (i : Nat) (o : Oper) (d : Nat), head[i]? = some o → o.dst = some d → bxGet bx0 d = none) {Q : Exit → Act → World → Prop} {Nx : Act → World → Prop} {k : Nat} {o : Oper} {L L' : Nat → Bool} {a : Act} {w : World} {μ : Mp}
  (hk : head[k]? = some o) (hL : L k = false) (hL' : ∀ i, L' i = true ↔ (i = k ∨ L i = true)) (hon : ∀ i, onAll o i = true → L i = true) (D : DInv base S w0 n head rs tm0 bx0 L a w μ)
  (hN : ∀ a' w' μ', DInv base S w0 n head rs tm0 bx0 L' a' w' μ' → Nx a' w') : wpOp P all.toArray Q k Nx a w := by
 obtain ⟨r, hr, hrec, hutm⟩ := chain_get hch k o hk
 have ho : all.toArray[k]? = some o := by simpa using hall k o hk
 have hdn := hrec.dst
 have hds : ∀ d, o.dst = some d → d < a.tmps.size := fun d hd => by rw [hd] at hdn; rw [D.size]; exact Nat.le_of_ble_eq_true hdn
 have notL : ∀ i, L i = false → i ≠ k → L' i = false := fun i h1 h2 => by
  cases h : L' i with
  | false => rfl
  | true =>
   rcases (hL' i).1 h with e | e
   ·exact absurd e h2
   ·rw [h1] at e; cases e
 have subL : ∀ i, L' i = false → L i = false ∧ i ≠ k := fun i h => by
  refine ⟨?_, fun e => by rw [(hL' i).2 (.inl e)] at h; cases h⟩
  cases hl : L i with
  | false => rfl
  | true => rw [(hL' i).2 (.inr hl)] at h; cases h
 -- what a temporary that it looks at holds
 have seen : ∀ t, (∀ (i : Nat) (x : Oper), head[i]? = some x → x.dst = some t → onAll o i = true ∧ i < k) → AVRep base S μ w (tmGet r.utm t) (a.eval (.tmp t)) := by
  intro t ht
  rw [hutm]
  by_cases hex : ∃ (i : Nat) (x : Oper), head[i]? = some x ∧ x.dst = some t
  ·obtain ⟨i, x, hx, hd⟩ := hex
   obtain ⟨h1, h2⟩ := ht i x hx hd
   obtain ⟨ri, hri, _, _⟩ := chain_get hch i x hx
   rw [utm_some head rs tm0 k t i x ri h2 hx hri hd fun j o' hj hd' => F.dist j i o' x t hj hx hd' hd]
   exact (D.done i x ri hx hri (hon i h1)).1 t hd
  ·rw [utm_none head rs tm0 k t fun i x _ hx hd => hex ⟨i, x, hx, hd⟩]
   exact D.rest t fun i x hx hd => (hex ⟨i, x, hx, hd⟩).elim
 have hwant : Region.wanted o (yielded all.toArray a.tmps) = r.run := by
  have hg := hrec.guard
  cases hgd : o.guard with
  | none => rw [hgd] at hg; simp only at hg; simp [Region.wanted, hgd, hg]
  | some gw =>
   obtain ⟨j, want⟩ := gw
   rw [hgd] at hg
   obtain ⟨t, yv, h1, h2, h3⟩ := hg
   obtain ⟨h4, h5⟩ := F.guard k o j want hk hgd
   have hb : yb (a.eval (.tmp t)) = yv := by
    refine h2 _ _ _ _ _ (seen t fun i x hx hd => ?_)
    -- the temporary is the guard's own
    have hj : ∃ xj, head[j]? = some xj := by
     have : j < head.length := Nat.lt_trans h5 (List.getElem?_eq_some_iff.1 hk).1
     exact ⟨_, List.getElem?_eq_getElem this⟩
    obtain ⟨xj, hxj⟩ := hj
    have hnth : ∀ (l : List Oper) (j : Nat), nth l j = l[j]? := by
     intro l
     induction l with
     | nil => intro j; simp [nth]
     | cons x l ih => intro j; cases j <;> simp [nth, ih]
    have hdj : xj.dst = some t := by
     unfold dstOf at h1
     rw [hnth, hall j xj hxj] at h1
     exact h1
    obtain rfl := F.dist i j x xj t hx hxj hd hdj
    exact ⟨h4, h5⟩
   rw [h3]
   simp only [Region.wanted, hgd, yielded_yb h1, hb]
 have hother : ∀ (d t : Nat) (y : Value), o.dst = some d → t ≠ d → (a.put o.dst y).eval (.tmp t) = a.eval (.tmp t) := fun d t y hd ht => by
  rw [hd, put_eval (hds d hd), if_neg ht]
 have hput : ∀ (t : Nat) (y : Value), o.dst ≠ some t → (a.put o.dst y).eval (.tmp t) = a.eval (.tmp t) := fun t y ht => by
  cases hd : o.dst with
  | none => rfl
  | some d => rw [← hd]; exact hother d t y hd fun e => ht (by rw [hd, e])
 have hsize : ∀ y, (a.put o.dst y).tmps.size = n := fun y => by cases o.dst <;> simp [Act.put, D.size]
 have hdef : ∀ y, (a.put o.dst y).defers = [] := fun y => by cases o.dst <;> exact D.defers
 unfold wpOp
 rw [ho]
 simp only [hwant]
 cases hrun : r.run with
 | false =>
  simp only [Bool.false_eq_true, if_false]
  obtain ⟨hv, he⟩ := hrec.no hrun
  refine hN _ w μ ⟨D.maps, D.below, D.le, hdef _, hsize _, fun i x ri hx hri hLi => ?_, fun t ht => ?_, D.bx, fun s hs hno => ?_, fun i x d j hx hd hLi => ?_⟩
  ·rcases (hL' i).1 hLi with rfl | hl
   ·rw [hk] at hx; cases hx
    rw [hr] at hri; cases hri
    exact ⟨fun d hd => by rw [hv, hd, put_eval (hds d hd), if_pos rfl]; rfl, fun T cs d e _ => by rw [he] at e; cases e⟩
   ·obtain ⟨g1, g2⟩ := D.done i x ri hx hri hl
    refine ⟨fun d hd => ?_, g2⟩
    rw [hput d _ fun e => ?_]
    ·exact g1 d hd
    ·have := F.dist i k x o d hx hk hd e; subst this; rw [hL] at hl; cases hl
  ·rw [hput t _ fun e => ?_]
   ·exact D.rest t fun i x hx hd => (subL i (ht i x hx hd)).1
   ·have := ht k o hk e; rw [(hL' k).2 (.inl rfl)] at this; cases this
  ·exact D.dom s hs fun i x ri T cs hx hri hl hd => hno i x ri T cs hx hri ((hL' i).2 (.inr hl)) hd
  ·exact D.tok i x d j hx hd (subL i hLi).1
 | true =>
  simp only [if_true]
  refine .inl ?_
  obtain ⟨hsem, hq⟩ := hrec.yes hrun
  refine hsem base S w0 a w μ ⟨D.maps, D.below, D.le, fun x hx => ?_, D.bx⟩ Nx Q fun y w' μ' H => ?_
  ·cases x with
   | const v => exact constAV_rep v
   | global g => trivial
   | func f => exact ⟨[], rfl, trivial⟩
   | tmp t =>
    refine hrec.imp t _ _ _ _ _ (seen t fun i x hx' hd => F.deps k i o x t hk hx' hd ?_)
    simp only [opTmps, List.mem_filterMap]
    exact ⟨.tmp t, by simpa using hx, rfl⟩
  ·have hp : ∀ d j, pE o.dst r.eff d j = true → μ.τ d j = none := fun d j h => by
    have hd : o.dst = some d := by
     have htk : isTok o.dst d j = true → o.dst = some d := fun h => by
      unfold isTok at h
      split at h
      ·rename_i x hx; rw [Nat.eq_of_beq_eq_true h] at hx; exact hx
      ·cases h
     cases he : r.eff with
     | app o' =>
      cases o' with
      | none => rw [he] at h; simp only [pE, hitTok, Bool.or_false] at h; exact htk h
      | some t => rw [he] at hq; exact hq.elim
     | fresh => rw [he] at h; exact htk h
     | _ => rw [he] at h; cases h
    exact D.tok k o d j hk hd hL
   have hρ : ∀ s, o.dst = some s → μ.ρ s = none := fun s hd => D.dom s (hfree k o s hk hd) fun i x ri T cs hx _ hl hd' => by
    have := F.dist i k x o s hx hk hd' hd; subst this; rw [hL] at hl; cases hl
   have hqn : ∀ s, qE o.dst r.eff s = true → μ.ρ s = none := fun s h => by
    cases he : r.eff with
    | new T cs =>
     rw [he] at h
     simp only [qE] at h
     split at h
     ·rename_i x hx; rw [Nat.eq_of_beq_eq_true h] at hx; exact hρ s hx
     ·cases h
    | _ => rw [he] at h; cases h
   have hin : ∀ s, iE o.dst r.eff s = true → μ.ρ s = none := fun s h => by
    cases he : r.eff with
    | new T cs =>
     rw [he] at h
     simp only [iE] at h
     split at h
     ·rename_i x hx; rw [Nat.eq_of_beq_eq_true h] at hx; exact hρ s hx
     ·cases h
    | set x off cs => rw [he] at hq; exact hq.elim
    | _ => rw [he] at h; cases h
   have hx := H.ext.strong hp hqn hin
   have keep : ∀ (x : AV Γ) (z : Value), AVRep base S μ w x z → AVRep base S μ' w' x z := fun x z h => by
    have := AVRep.ext hx (fun s h => by cases h) h
    rwa [roAV_no, noPt_no] at this
   have keepB : ∀ (s T : Nat) (cs : List (Cell Γ)), BoxRep base S μ w s T cs → BoxRep base S μ' w' s T cs := fun s T cs h => by
    have := h.ext hx rfl rfl
    rwa [roCells_no] at this
   refine hN _ w' μ' ⟨H.maps, H.below, Nat.le_trans D.le hx.size, hdef _, hsize _, fun i x ri hx' hri hLi => ?_, fun t ht => ?_, fun s T cs hs => keepB s T cs (D.bx s T cs hs), fun s hs hno => ?_, fun i x d j hx' hd hLi => ?_⟩
   ·rcases (hL' i).1 hLi with rfl | hl
    ·rw [hk] at hx'; cases hx'
     rw [hr] at hri; cases hri
     refine ⟨fun d hd => ?_, fun T cs d e hd => ?_⟩
     ·rw [hd, put_eval (hds d hd), if_pos rfl]; exact H.val
     ·obtain ⟨d', hd', hbx⟩ := H.new T cs e
      rw [hd] at hd'; cases hd'
      exact hbx
    ·obtain ⟨g1, g2⟩ := D.done i x ri hx' hri hl
     refine ⟨fun d hd => ?_, fun T cs d e hd => keepB d T cs (g2 T cs d e hd)⟩
     rw [hput d _ fun e => ?_]
     ·exact keep _ _ (g1 d hd)
     ·have := F.dist i k x o d hx' hk hd e; subst this; rw [hL] at hl; cases hl
   ·rw [hput t _ fun e => ?_]
    ·exact keep _ _ (D.rest t fun i x hx' hd => (subL i (ht i x hx' hd)).1)
    ·have := ht k o hk e; rw [(hL' k).2 (.inl rfl)] at this; cases this
   ·have h1 := D.dom s hs fun i x ri T cs hx' hri hl hd => hno i x ri T cs hx' hri ((hL' i).2 (.inr hl)) hd
    rcases H.dom s h1 with e | ⟨e1, T, cs, e2⟩
    ·exact e
    ·exact absurd e2 (hno k o r T cs hk hr ((hL' k).2 (.inl rfl)) e1)
   ·obtain ⟨g1, g2⟩ := subL i hLi
    rcases H.tdom d j (D.tok i x d j hx' hd g1) with e | e
    ·exact e
    ·exact absurd (F.dist i k x o d hx' hk hd e) g2

theorem bxGet_append : ∀ (a b : Bx Γ) (s : Nat), bxGet (a ++ b) s = match bxGet a s with | some x => some x | none => bxGet b s
 | [], b, s => rfl
 | (i, x) :: a, b, s => by
  simp only [List.cons_append, bxGet]
  cases Nat.beq i s with
  | true => rfl
  | false => exact bxGet_append a b s

theorem ddone {all head : List Oper} {bx0 : Bx Γ} {tm0 utm' tm' : Tm Γ} {nb' : Bx Γ} {rs : List (HRec Γ)} (F : HeadFacts head) (hch : Chain P n all bx0 head tm0 [] rs utm' nb') (himp : ∀ t, Imp (tmGet utm' t) (tmGet tm' t))
  {L : Nat → Bool} {a : Act} {w : World} {μ : Mp} (hL : ∀ i, i < head.length → L i = true) (D : DInv base S w0 n head rs tm0 bx0 L a w μ) : Inv base S w0 n ⟨tm', nb' ++ bx0⟩ a w μ := by
 have lt : ∀ {i : Nat} {o : Oper}, head[i]? = some o → i < head.length := fun h => (List.getElem?_eq_some_iff.1 h).1
 refine ⟨D.maps, D.below, D.le, fun t => himp t _ _ _ _ _ ?_, fun s T cs hs => ?_, fun s hs => ?_, D.defers, D.size⟩
 ·rw [chain_end hch]
  by_cases hex : ∃ (i : Nat) (x : Oper), head[i]? = some x ∧ x.dst = some t
  ·obtain ⟨i, x, hx, hd⟩ := hex
   obtain ⟨ri, hri, _, _⟩ := chain_get hch i x hx
   rw [utm_some head rs tm0 _ t i x ri (lt hx) hx hri hd fun j o' hj hd' => F.dist j i o' x t hj hx hd' hd]
   exact (D.done i x ri hx hri (hL i (lt hx))).1 t hd
  ·rw [utm_none head rs tm0 _ t fun i x _ hx hd => hex ⟨i, x, hx, hd⟩]
   exact D.rest t fun i x hx hd => (hex ⟨i, x, hx, hd⟩).elim
 ·have hs : bxGet (nb' ++ bx0) s = some (T, cs) := hs
  rw [bxGet_append] at hs
  obtain ⟨h1, h2⟩ := chain_nb hch s
  cases hn : bxGet nb' s with
  | none => rw [hn] at hs; exact D.bx s T cs hs
  | some x =>
   rw [hn] at hs
   cases hs
   rcases h1 T cs hn with e | ⟨i, o, r, e1, e2, e3, e4⟩
   ·cases e
   ·exact (D.done i o r e1 e2 (hL i (lt e1))).2 T cs s e4 e3
 ·have hs : bxGet (nb' ++ bx0) s = none := hs
  rw [bxGet_append] at hs
  obtain ⟨h1, h2⟩ := chain_nb hch s
  cases hn : bxGet nb' s with
  | some x => rw [hn] at hs; cases hs
  | none =>
   rw [hn] at hs
   exact D.dom s hs fun i o r T cs e1 e2 _ e3 => (h2 hn).2 i o r T cs e1 e2 e3

end

section
variable {Γ : Ctx} {P : Program} {base : Nat} {S : Nat → Nat → Prop} {w0 : World} {n : Nat}

theorem Inv.drew {st : St Γ} {a : Act} {w : World} {μ : Mp} (h : Inv base S w0 n st a w μ) : Inv base S w0 n st a w.drew μ := by
 have hB : Below w.heap.size w w.drew := (Below.refl _ _).drew
 have := h.ext_ro (Ext.of_below hB h.maps) (h.maps.of_size hB.size) (h.below.trans (hB.mono h.le)) fun _ e => e
 rwa [ro_no] at this

theorem Inv.clean {st : St Γ} {a : Act} {w : World} {μ : Mp} (h : Inv base S w0 n st a w μ) (D : Nat → Bool) :
  ∃ μ', Inv base S w0 n ((st.ro fun d _ => D d).drop D) a w μ' ∧ (∀ d j, D d = true → μ'.τ d j = none) ∧ ∀ s, D s = true → μ'.ρ s = none := by
 let μ' : Mp := ⟨fun s => if D s = true then none else μ.ρ s, fun d j => if D d = true then none else μ.τ d j⟩
 have hρ : ∀ s g, μ'.ρ s = some g → D s = false ∧ μ.ρ s = some g := fun s g hs => by
  simp only [μ'] at hs
  split at hs
  ·cases hs
  ·rename_i hd; exact ⟨by simpa using hd, hs⟩
 have hτ : ∀ d j v, μ'.τ d j = some v → D d = false ∧ μ.τ d j = some v := fun s g v hs => by
  simp only [μ'] at hs
  split at hs
  ·cases hs
  ·rename_i hd; exact ⟨by simpa using hd, hs⟩
 have H : Ext base (fun d _ => D d) D D μ w μ' w :=
  ⟨Nat.le_refl _, fun _ _ _ _ => rfl, fun b o _ hs hb => ⟨fun s e => (hs hb).1 s (hρ s b e).2, fun d j u e => (hs hb).2 d j u (hτ d j _ e).2⟩, fun s g hq e => by simp [μ', hq, e], fun _ _ _ _ _ => rfl, fun d j v hp e => by simp [μ', hp, e], fun _ _ _ _ _ _ => rfl⟩
 refine ⟨μ', ⟨⟨fun s s' g e e' => h.maps.ρinj s s' g (hρ s g e).2 (hρ s' g e').2, fun s g e => h.maps.ρnew s g (hρ s g e).2, fun d j g u e => ?_, fun d j d' j' g u u' e e' => h.maps.τinj d j d' j' g u u' (hτ d j _ e).2 (hτ d' j' _ e').2⟩, h.below, h.le, fun t => ?_, fun s T cs hs => ?_, fun s hs => ?_, h.defers, h.size⟩, fun d j hd => by simp [μ', hd], fun s hs => by simp [μ', hs]⟩
 ·obtain ⟨h1, h2, h3⟩ := h.maps.τnew d j g u (hτ d j _ e).2
  exact ⟨h1, h2, fun s e' => h3 s (hρ s g e').2⟩
 ·rw [drop_tm, ro_tm]
  exact AVRep.ext H (fun s h => h) (h.tm t)
 ·rw [drop_bx, ro_bx] at hs
  cases hD : D s with
  | true => rw [hD] at hs; cases hs
  | false =>
   rw [hD] at hs
   obtain ⟨x, hx, e⟩ := Option.map_eq_some_iff.1 hs
   obtain ⟨T', cs'⟩ := x
   cases e
   exact (h.bx s _ cs' hx).ext H hD hD
 ·rw [drop_bx, ro_bx] at hs
  cases hD : D s with
  | true => simp [μ', hD]
  | false =>
   rw [hD] at hs
   have : bxGet st.bx s = none := by cases hx : bxGet st.bx s with | none => rfl | some x => rw [hx] at hs; cases hs
   simp [μ', hD, h.dom s this]

theorem headLen_spec : ∀ (l : List Oper) (j : Nat), j ≤ headLen l j ∧ headLen l j ≤ j + l.length ∧ headLen.tailOK (l.drop (headLen l j - j)) (headLen l j) = true
 | [], j => by simp [headLen, headLen.tailOK]
 | o :: l, j => by
  obtain ⟨h1, h2, h3⟩ := headLen_spec l (j + 1)
  simp only [headLen]
  cases ht : headLen.tailOK (o :: l) j with
  | true => simp [ht]
  | false =>
   simp only [cond_false, List.length_cons]
   refine ⟨by omega, by omega, ?_⟩
   rw [show headLen l (j + 1) - j = (headLen l (j + 1) - (j + 1)) + 1 by omega]
   exact h3

theorem tailOK_get : ∀ (l : List Oper) (j : Nat), headLen.tailOK l j = true → ∀ (i : Nat) (o : Oper), l[i]? = some o → waitsAll o (j + i) = true ∧ backOK o (j + i) = true
 | [], _, _, i, _, h => by simp at h
 | x :: l, j, hk, i, o, ho => by
  simp only [headLen.tailOK, Bool.and_eq_true] at hk
  cases i with
  | zero => simp at ho; subst ho; exact ⟨hk.1.1, hk.1.2⟩
  | succ i =>
   have := tailOK_get l (j + 1) hk.2 i o (by simpa using ho)
   rwa [show j + 1 + i = j + (i + 1) by omega] at this

theorem waitsAll_get {o : Oper} : ∀ (j : Nat), waitsAll o j = true → ∀ i, i < j → onAll o i = true
 | 0, _, i, h => by omega
 | j + 1, hk, i, h => by
  simp only [waitsAll, Bool.and_eq_true] at hk
  by_cases e : i = j
  ·subst e; exact hk.1
  ·exact waitsAll_get j hk.2 i (by omega)

theorem onAll_listed {o : Oper} {listed : Array Bool} (h : ∀ e ∈ o.after, Region.binds .any e = true → listed.getD e.on false = true) {i : Nat} (hi : onAll o i = true) : listed.getD i false = true := by
 simp only [onAll, List.any_eq_true, Bool.and_eq_true] at hi
 obtain ⟨e, he, h1, h2⟩ := hi
 have := h e (by simpa using he) h2
 rwa [Nat.eq_of_beq_eq_true h1] at this

theorem back_ready {o : Oper} {j : Nat} (h : backOK o j = true) : ∀ e ∈ o.after, Region.binds .any e = true → e.on < j := by
 intro e he hb
 simp only [backOK, List.all_eq_true] at h
 have := h e (by simpa using he)
 simp only [hb, Bool.not_true, Bool.false_or] at this
 exact Nat.le_of_ble_eq_true this

theorem first_false {L : Nat → Bool} : ∀ (h : Nat), (∃ i, i < h ∧ L i = false) → ∃ k, k < h ∧ L k = false ∧ ∀ i, i < k → L i = true
 | 0, ⟨i, h, _⟩ => by omega
 | h + 1, ⟨i, hi, hl⟩ => by
  by_cases hex : ∃ i, i < h ∧ L i = false
  ·obtain ⟨k, h1, h2, h3⟩ := first_false h hex
   exact ⟨k, by omega, h2, h3⟩
  ·have hall : ∀ i, i < h → L i = true := fun i hi => by
    cases hl : L i with
    | true => rfl
    | false => exact (hex ⟨i, hi, hl⟩).elim
   have : i = h := by
    by_cases e : i = h
    ·exact e
    ·rw [hall i (by omega)] at hl; cases hl
   subst this
   exact ⟨i, by omega, hl, hall⟩

theorem set_getD {listed : Array Bool} {i j : Nat} {d : Bool} (hi : i < listed.size) : (listed.setIfInBounds i true).getD j d = if j = i then true else listed.getD j d := by
 by_cases h : j = i
 ·subst h; simp [Array.getD_eq_getD_getElem?, hi]
 ·rw [if_neg h, Array.getD_eq_getD_getElem?, Array.getElem?_setIfInBounds_ne (Ne.symm h), ← Array.getD_eq_getD_getElem?]

theorem ready_iff {ops : List Oper} {listed : Array Bool} (hs : listed.size = ops.length) {i : Nat} : i ∈ Region.ready .any ops.toArray listed ↔ ∃ o, ops[i]? = some o ∧ listed.getD i false = false ∧ ∀ e ∈ o.after, Region.binds .any e = true → listed.getD e.on false = true := by
 rw [mem_ready]
 constructor
 ·rintro ⟨g1, o, g2, g3⟩
  have g2' : ops[i]? = some o := by simpa using g2
  have hlt : i < listed.size := by rw [hs]; exact (List.getElem?_eq_some_iff.1 g2').1
  refine ⟨o, g2', ?_, g3⟩
  simp [Array.getD_eq_getD_getElem?, hlt] at g1 ⊢; exact g1
 ·rintro ⟨o, g1, g2, g3⟩
  have hlt : i < listed.size := by rw [hs]; exact (List.getElem?_eq_some_iff.1 g1).1
  refine ⟨?_, o, by simpa using g1, g3⟩
  simp [Array.getD_eq_getD_getElem?, hlt] at g2 ⊢; exact g2

theorem any_tail {R : Type} (C : CtxOK P Γ) {E : List (Ent Γ)} (hE : ∀ e ∈ E, EntOK P e) {ops : List Oper} {Q : Exit → Act → World → Prop} {K : St Γ → Option R} {r : R} {h : Nat}
  (htail : ∀ (j : Nat) (o : Oper), h ≤ j → ops[j]? = some o → waitsAll o j = true ∧ backOK o j = true)
  (hQ : ∀ st' a' w' μ', Inv base S w0 n st' a' w' μ' → K st' = some r → Q .normal a' w') : ∀ (fuel j : Nat) (listed : Array Bool) (st : St Γ) (a : Act) (w : World) (μ : Mp), listed.size = ops.length → (∀ i, i < j → i < ops.length → listed.getD i false = true) → (∀ i, j ≤ i → i < ops.length → listed.getD i false = false) →
   h ≤ j → ops.length ≤ j + fuel → aops n E ops (ops.drop j) st K = some r → Inv base S w0 n st a w μ → wpAny P .any ops.toArray Q fuel listed a w := by
 intro fuel
 have only : ∀ (j : Nat) (listed : Array Bool), listed.size = ops.length → (∀ i, i < j → i < ops.length → listed.getD i false = true) → (∀ i, j ≤ i → i < ops.length → listed.getD i false = false) → h ≤ j → ∀ i, i ∈ Region.ready .any ops.toArray listed → i = j ∧ j < ops.length := by
  intro j listed hs h1 h2 hj i hi
  obtain ⟨o, g1, g2, g3⟩ := (ready_iff hs).1 hi
  have hlt : i < ops.length := (List.getElem?_eq_some_iff.1 g1).1
  have hij : j ≤ i := by
   rcases Nat.lt_or_ge i j with e | e
   ·rw [h1 i e hlt] at g2; cases g2
   ·exact e
  rcases Nat.lt_or_ge j i with e | e
  ·have hw := (htail i o (by omega) g1).1
   have := onAll_listed g3 (waitsAll_get i hw j e)
   rw [h2 j (Nat.le_refl _) (by omega)] at this
   cases this
  ·exact ⟨by omega, by omega⟩
 induction fuel with
 | zero =>
  intro j listed st a w μ hs h1 h2 hj hf hk hi
  have hd : ops.drop j = [] := List.drop_eq_nil_of_le (by omega)
  rw [hd] at hk
  refine ⟨?_, hQ st a w μ hi hk⟩
  rw [List.eq_nil_iff_forall_not_mem]
  intro i hi'
  have := (only j listed hs h1 h2 hj i hi').2
  omega
 | succ fuel ih =>
  intro j listed st a w μ hs h1 h2 hj hf hk hi
  rcases Nat.lt_or_ge j ops.length with hlt | hge
  ·have ho : ops[j]? = some ops[j] := List.getElem?_eq_getElem hlt
   have hdrop : ops.drop j = ops[j] :: ops.drop (j + 1) := List.drop_eq_getElem_cons hlt
   rw [hdrop] at hk
   refine ⟨fun hn => ?_, fun i hi' => ?_⟩
   ·have : j ∈ Region.ready .any ops.toArray listed := (ready_iff hs).2 ⟨_, ho, h2 j (Nat.le_refl _) hlt, fun e he hb => by
     have hbk := back_ready (htail j _ hj ho).2 e he hb
     exact h1 _ hbk (by omega)⟩
    rw [hn] at this; cases this
   ·obtain ⟨rfl, _⟩ := only j listed hs h1 h2 hj i hi'
    have hsz : i < listed.size := by omega
    refine aop_step C hE ho hk hi fun st' a' w' μ' hi2 hk2 => ih (i + 1) _ st' a' w' μ' (by simpa using hs) (fun k hk3 hk4 => ?_) (fun k hk3 hk4 => ?_) (by omega) (by omega) hk2 hi2
    ·rw [set_getD hsz]
     split
     ·rfl
     ·exact h1 k (by omega) hk4
    ·rw [set_getD hsz, if_neg (by omega)]
     exact h2 k (by omega) hk4
  ·have hd : ops.drop j = [] := List.drop_eq_nil_of_le hge
   rw [hd] at hk
   refine ⟨fun _ => hQ st a w μ hi hk, fun i hi' => ?_⟩
   have := (only j listed hs h1 h2 hj i hi').2
   omega

theorem any_head {R : Type} (C : CtxOK P Γ) {E : List (Ent Γ)} (hE : ∀ e ∈ E, EntOK P e) {ops : List Oper} {Q : Exit → Act → World → Prop} {K : St Γ → Option R} {r : R} {h : Nat} (hh : h ≤ ops.length)
  (htail : ∀ (j : Nat) (o : Oper), h ≤ j → ops[j]? = some o → waitsAll o j = true ∧ backOK o j = true) (F : HeadFacts (ops.take h))
  (hQ : ∀ st' a' w' μ', Inv base S w0 n st' a' w' μ' → K st' = some r → Q .normal a' w') {bx0 : Bx Γ} {tm0 utm' tm' : Tm Γ} {nb' : Bx Γ} {rs : List (HRec Γ)} (hch : Chain P n ops bx0 (ops.take h) tm0 [] rs utm' nb') (himp : ∀ t, Imp (tmGet utm' t) (tmGet tm' t))
  (hfree : ∀ (i : Nat) (o : Oper) (d : Nat), (ops.take h)[i]? = some o → o.dst = some d → bxGet bx0 d = none) (hk : aops n E ops (ops.drop h) ⟨tm', nb' ++ bx0⟩ K = some r) :
  ∀ (fuel : Nat) (listed : Array Bool) (U : List Nat) (a : Act) (w : World) (μ : Mp), listed.size = ops.length → (∀ i, h ≤ i → i < ops.length → listed.getD i false = false) → (∀ i, i < h → (listed.getD i false = false ↔ i ∈ U)) → U.Nodup → U.length + (ops.length - h) ≤ fuel →
   DInv base S w0 n (ops.take h) rs tm0 bx0 (fun i => listed.getD i false) a w μ → wpAny P .any ops.toArray Q fuel listed a w := by
 have lenh : (ops.take h).length = h := by rw [List.length_take]; omega
 have hget : ∀ (i : Nat) (o : Oper), (ops.take h)[i]? = some o ↔ i < h ∧ ops[i]? = some o := fun i o => by
  rw [List.getElem?_take]
  by_cases e : i < h
  ·simp [e]
  ·simp [e]
 intro fuel
 induction fuel with
 | zero =>
  intro listed U a w μ hs h1 h2 hU hf D
  have hl : ∀ i, i < h → listed.getD i false = true := fun i hi => by
   cases hg : listed.getD i false with
   | true => rfl
   | false =>
    have := (h2 i hi).1 hg
    have := List.length_pos_of_mem this
    omega
  exact any_tail C hE htail hQ 0 h listed _ a w μ hs (fun i hi _ => hl i hi) h1 (Nat.le_refl _) (by omega) hk (ddone F hch himp (fun i hi => hl i (by omega)) D)
 | succ fuel ih =>
  intro listed U a w μ hs h1 h2 hU hf D
  by_cases hex : ∃ i, i < h ∧ listed.getD i false = false
  ·obtain ⟨k0, g1, g2, g3⟩ := first_false (L := fun i => listed.getD i false) h hex
   have hk0 : ops[k0]? = some ops[k0] := List.getElem?_eq_getElem (by omega)
   refine ⟨fun hn => ?_, fun i hi => ?_⟩
   ·have : k0 ∈ Region.ready .any ops.toArray listed := (ready_iff hs).2 ⟨_, hk0, g2, fun e he hb => g3 _ (back_ready (F.back k0 _ ((hget k0 _).2 ⟨g1, hk0⟩)) e he hb)⟩
    rw [hn] at this; cases this
   ·obtain ⟨o, e1, e2, e3⟩ := (ready_iff hs).1 hi
    have hlt : i < ops.length := (List.getElem?_eq_some_iff.1 e1).1
    have hih : i < h := by
     rcases Nat.lt_or_ge i h with e | e
     ·exact e
     ·have hw := (htail i o e e1).1
      have := onAll_listed e3 (waitsAll_get i hw k0 (by omega))
      rw [g2] at this; cases this
    have hsz : i < listed.size := by omega
    refine dstep F (fun j x hj => ((hget j x).1 hj).2) hch hfree ((hget i o).2 ⟨hih, e1⟩) (L' := fun j => (listed.setIfInBounds i true).getD j false) e2 (fun j => ?_) (fun j hj => onAll_listed e3 hj) D fun a' w' μ' D' => ih _ (U.erase i) a' w' μ' (by simpa using hs) (fun j hj hj' => ?_) (fun j hj => ?_) (hU.erase i) ?_ D'
    ·simp only [set_getD hsz]
     by_cases e : j = i <;> simp [e]
    ·rw [set_getD hsz, if_neg (by omega)]; exact h1 j hj hj'
    ·rw [set_getD hsz, hU.mem_erase_iff]
     by_cases e : j = i
     ·simp [e]
     ·simp only [e, if_false, ne_eq, not_false_eq_true, true_and]; exact h2 j hj
    ·have hm : i ∈ U := (h2 i hih).1 e2
     rw [List.length_erase_of_mem hm]
     have := List.length_pos_of_mem hm
     omega
  ·have hl : ∀ i, i < h → listed.getD i false = true := fun i hi => by
    cases hg : listed.getD i false with
    | true => rfl
    | false => exact (hex ⟨i, hi, hg⟩).elim
   exact any_tail C hE htail hQ (fuel + 1) h listed _ a w μ hs (fun i hi _ => hl i hi) h1 (Nat.le_refl _) (by omega) hk (ddone F hch himp (fun i hi => hl i (by omega)) D)

theorem dsts_mem {l : List Oper} {i d : Nat} {o : Oper} (hi : l[i]? = some o) (hd : o.dst = some d) : dsts l d = true := by
 simp only [dsts, List.any_eq_true]
 exact ⟨o, List.mem_of_getElem? hi, by rw [hd]; exact Nat.beq_refl d⟩

theorem adrawn_sound {R : Type} (C : CtxOK P Γ) {E : List (Ent Γ)} (hE : ∀ e ∈ E, EntOK P e) {id : Nat} {ops : Array Oper} {Q : Exit → Act → World → Prop} {st : St Γ} {K : St Γ → Option R} {r : R} {a : Act} {w : World} {μ : Mp}
  (h : adrawn n E ops.toList st K = some r) (hi : Inv base S w0 n st a w μ) (hQ : ∀ st' a' w' μ', Inv base S w0 n st' a' w' μ' → K st' = some r → Q .normal a' w') : (Code.region id ops true).wp P Q a w := by
 unfold adrawn at h
 simp only at h
 obtain ⟨s1, s2, s3⟩ := headLen_spec ops.toList 0
 simp only [Nat.sub_zero, Nat.zero_add] at s2 s3
 cases hok : headOK (ops.toList.take (headLen ops.toList 0)) (ops.toList.take (headLen ops.toList 0)) 0 with
 | false => simp [hok] at h
 | true =>
  simp only [hok, cond_true] at h
  have F := headFacts hok
  have hi1 := hi.drew
  obtain ⟨μ', hi2, t1, t2⟩ := hi1.clean (dsts (ops.toList.take (headLen ops.toList 0)))
  obtain ⟨rs, utm', tm', nb', g1, g2, g3⟩ := ahead_inv (P := P) C hE _ _ _ [] _ r (fun t => fun _ _ _ _ _ h => h) h
  have hfree : ∀ (i : Nat) (o : Oper) (d : Nat), (ops.toList.take (headLen ops.toList 0))[i]? = some o → o.dst = some d → bxGet ((st.ro fun d _ => dsts (ops.toList.take (headLen ops.toList 0)) d).drop (dsts (ops.toList.take (headLen ops.toList 0)))).bx d = none := fun i o d hi' hd => by
   rw [drop_bx, dsts_mem hi' hd]; rfl
  have htail : ∀ (j : Nat) (o : Oper), headLen ops.toList 0 ≤ j → ops.toList[j]? = some o → waitsAll o j = true ∧ backOK o j = true := fun j o hj ho => by
   have := tailOK_get _ _ s3 (j - headLen ops.toList 0) o (by rw [List.getElem?_drop]; rwa [show headLen ops.toList 0 + (j - headLen ops.toList 0) = j by omega])
   rwa [show headLen ops.toList 0 + (j - headLen ops.toList 0) = j by omega] at this
  refine wp_region_any C.mixed ?_
  have hrep : ∀ (i : Nat) (d : Bool), i < ops.size → (Array.replicate ops.size false).getD i d = false := fun i d hi => by simp [Array.getD_eq_getD_getElem?, hi]
  have hrep' : ∀ (i : Nat), (Array.replicate ops.size false).getD i false = false := fun i => by
   rcases Nat.lt_or_ge i ops.size with e | e
   ·exact hrep i false e
   ·simp [Array.getD_eq_getD_getElem?, Array.getElem?_eq_none, e]
  have := any_head C hE (Q := Q) s2 htail F hQ g1 g2 hfree g3 ops.size (Array.replicate ops.size false) (List.range (headLen ops.toList 0)) a w.drew μ' (by simp) (fun i _ _ => hrep' i) (fun i hi => by simp [hrep' i, hi]) List.nodup_range (by simp at s2 ⊢; omega)
   ⟨hi2.maps, hi2.below, hi2.le, hi2.defers, hi2.size, fun i o r' _ _ hl => absurd hl (by rw [hrep' i]; simp), fun t _ => hi2.tm t, hi2.bx, fun s hs _ => hi2.dom s hs, fun i o d j ho hd _ => t1 d j (dsts_mem ho hd)⟩
  simpa using this

theorem region_sound {R : Type} (C : CtxOK P Γ) {E : List (Ent Γ)} (hE : ∀ e ∈ E, EntOK P e) {id : Nat} {ops : Array Oper} {draw : Bool} {Q : Exit → Act → World → Prop} {st : St Γ} {K : St Γ → Option R} {r : R} {a : Act} {w : World} {μ : Mp}
  (h : region n E ops.toList draw st K = some r) (hi : Inv base S w0 n st a w μ) (hQ : ∀ st' a' w' μ', Inv base S w0 n st' a' w' μ' → K st' = some r → Q .normal a' w') : (Code.region id ops draw).wp P Q a w := by
 cases draw with
 | true => exact adrawn_sound C hE h hi hQ
 | false =>
  refine wp_region ?_
  have := aops_sound C hE (all := ops.toList) (Q := Q) ops.toList (List.range ops.size) st K r a w μ (by simp) (fun j i hj => by
   have : i = j := by
    have hl := (List.getElem?_eq_some_iff.1 hj).1
    rw [List.getElem?_range (by simpa using hl)] at hj
    cases hj; rfl
   subst this; rfl) h hi hQ
  simpa using this

end

end Go.Refl
