/- A pure interpreter of the code, and that the machine does what it tells (a text of this session). -/
import Derived.Test.YtmbffgkejknfaaaGreatDoorReflB
set_option autoImplicit false
set_option linter.unusedVariables false
set_option linter.unusedSimpArgs false
namespace Go.Refl
open Go.RowKit

section
variable {Γ : Ctx} {P : Program} {base : Nat} {S : Nat → Nat → Prop} {w0 : World} {n : Nat}


def Stays (base' : Nat) (S' : Nat → Nat → Prop) (μc : Mp) (base : Nat) (S : Nat → Nat → Prop) (μ : Mp) : Prop :=
 ∀ b oo, Stable base' μc b oo → Stable base μ b oo

theorem argCells_ref {base' : Nat} {S' : Nat → Nat → Prop} {μ μc : Mp} {w : World} {b off : Nat} {cs : List (Cell Γ)} (hst : Stays base' S' μc base S μ) (h : RefRep base' S' μc w b off cs) :
  ∃ vs, CellsRep base' S' μc w cs vs ∧ ∀ cs2 : List (Cell Γ), CellsRep base S μ w cs2 vs → RefRep base S μ w b off cs2 := by
 obtain ⟨vs, h1, h2, h3⟩ := cellsAt_list (fun j c hj => by obtain ⟨v, f1, f2, _⟩ := h j c hj; exact ⟨v, f1, f2⟩ : CellsAt base' S' μc w b off cs)
 refine ⟨vs, h2, fun cs2 hc j c hj => ?_⟩
 obtain ⟨v, hv, hcv⟩ := hc.get j hj
 have hjl : j < cs.length := by rw [← h1]; exact (List.getElem?_eq_some_iff.1 hv).1
 obtain ⟨v', f1, _, f3, f4⟩ := h j _ (List.getElem?_eq_getElem hjl)
 exact ⟨v, h3 j v hv, hcv, hst b _ f3, f4⟩

theorem caps_cells {base' : Nat} {S' : Nat → Nat → Prop} {μ μc : Mp} {w : World} (hst : Stays base' S' μc base S μ) : ∀ (caps : List (List LC)) (ps : List (Pt Γ)) (ys : List Value) (cs : List (Cell Γ)), capCells caps ps = some cs → PtsRep base' S' μc w ps ys →
  ∃ vs, CellsRep base' S' μc w cs vs ∧ cs.length = caps.flatten.length ∧ ∀ cs2 : List (Cell Γ), CellsRep base S μ w cs2 vs → PtsRep base S μ w (capRefs caps cs2) ys
 | [], [], [], cs, h, _ => by simp [capCells] at h; subst h; exact ⟨[], trivial, rfl, fun _ _ => trivial⟩
 | l :: caps, q :: ps, y :: ys, cs, h, hr => by
  cases q with
  | ref cs1 =>
   simp only [capCells] at h
   split at h
   ·rename_i r hcr
    cases hl : (cs1.length).beq l.length with
    | false => simp [hl] at h
    | true =>
     simp only [hl] at h
     cases h
     have hlen := Nat.eq_of_beq_eq_true hl
     obtain ⟨b, off, rfl, hrf⟩ := hr.1
     obtain ⟨vs1, g1, g2⟩ := argCells_ref (base := base) (S := S) hst hrf
     obtain ⟨vs2, g3, g4, g5⟩ := caps_cells hst caps ps ys r hcr hr.2
     refine ⟨vs1 ++ vs2, g1.append g3, by simp [g4, hlen], fun cs2 hc => ?_⟩
     have hl1 : vs1.length = l.length := by rw [← g1.length, hlen]
     have ht := hc.take l.length
     have hd := hc.drop l.length
     rw [List.take_left' hl1] at ht
     rw [List.drop_left' hl1] at hd
     exact ⟨⟨b, off, rfl, g2 _ ht⟩, g5 _ hd⟩
   ·cases h
  | _ => simp [capCells] at h
 | [], _ :: _, _, _, h, _ => by simp [capCells] at h
 | _ :: _, [], _, _, h, _ => by simp [capCells] at h
 | [], [], _ :: _, _, _, hr => hr.elim
 | _ :: _, _ :: _, [], _, _, hr => hr.elim

theorem av_reenc {base' : Nat} {S' : Nat → Nat → Prop} {μ μc : Mp} {w : World} (hst : Stays base' S' μc base S μ) {vc : VC} {a : AV Γ} {y : Value} {cs : List (Cell Γ)} (h : avCells vc a = some cs) (hr : AVRep base' S' μc w a y) :
  ∃ vs, CellsRep base' S' μc w cs vs ∧ cs.length = vc.ls.length ∧ ∀ cs2 : List (Cell Γ), CellsRep base S μ w cs2 vs → AVRep base S μ w (argAV vc cs2) y := by
 cases vc with
 | c l =>
  obtain ⟨x, rfl, rfl⟩ := avCells_c h
  refine ⟨[y], ⟨hr, trivial⟩, rfl, fun cs2 hc => ?_⟩
  cases cs2 with
  | nil => exact hc.elim
  | cons c cs2 => exact hc.1
 | agg ls =>
  obtain ⟨rfl, hl⟩ := avCells_agg h
  obtain ⟨vs, rfl, hc⟩ := hr
  refine ⟨vs, hc, hl, fun cs2 hc2 => ⟨vs, rfl, ?_⟩⟩
  have h1 := hc2.length
  have h2 := hc.length
  rw [List.take_of_length_le (by omega)]
  exact hc2
 | clo f caps =>
  cases a with
  | clo f' ps =>
   simp only [avCells] at h
   cases hf : f.beq f' with
   | false => simp [hf] at h
   | true =>
    obtain rfl := Nat.eq_of_beq_eq_true hf
    simp only [hf, cond_true] at h
    obtain ⟨ys, rfl, hps⟩ := hr
    obtain ⟨vs, g1, g2, g3⟩ := caps_cells (base := base) (S := S) hst caps ps ys cs h hps
    exact ⟨vs, g1, g2, fun cs2 hc => ⟨ys, rfl, g3 cs2 hc⟩⟩
  | _ => simp [avCells] at h
 | ref ls =>
  cases a with
  | p q =>
   cases q with
   | ref cs' =>
    simp only [avCells] at h
    cases hl : cs'.length.beq ls.length with
    | false => simp [hl] at h
    | true =>
     simp only [hl, cond_true] at h
     cases h
     have hlen := Nat.eq_of_beq_eq_true hl
     obtain ⟨b, off, rfl, hrf⟩ := hr
     obtain ⟨vs, g1, g2⟩ := argCells_ref (base := base) (S := S) hst hrf
     refine ⟨vs, g1, hlen, fun cs2 hc => ⟨b, off, rfl, ?_⟩⟩
     have h1 := hc.length
     have h2 := g1.length
     rw [List.take_of_length_le (by omega)]
     exact g2 cs2 hc
   | _ => simp [avCells] at h
  | _ => simp [avCells] at h

theorem Moves.stays {base' : Nat} {S' : Nat → Nat → Prop} {μ μc : Mp} (h : ∀ b oo, Stable base' μc b oo → Stable base μ b oo) : Stays base' S' μc base S μ := h


theorem scCells_box {s o : Nat} {a : AV Γ} {cs : List (Cell Γ)} (h : scCells (.box s o) a = some cs) : a = .p (.box s o) ∧ cs = [] := by
 cases a with
 | p q =>
  cases q with
  | box s' o' =>
   simp only [scCells] at h
   cases hb : (s.beq s').and (o.beq o') with
   | false => simp [hb] at h
   | true =>
    simp only [hb, cond_true] at h
    simp only [Bool.and_eq_true] at hb
    cases h
    obtain rfl := Nat.eq_of_beq_eq_true hb.1
    obtain rfl := Nat.eq_of_beq_eq_true hb.2
    exact ⟨rfl, rfl⟩
  | _ => simp [scCells] at h
 | _ => simp [scCells] at h

theorem isK_eq {c : Cell Γ} {v : Value} (h : isK c v = true) : c = .v v := by
 unfold isK at h
 split at h
 ·simp at h; obtain ⟨rfl, rfl⟩ := h; rfl
 ·rename_i a b
  cases a <;> cases b <;> first | rfl | cases h
 ·simp at h; subst h; rfl
 ·cases h

theorem scCells_k {v : Value} {a : AV Γ} {cs : List (Cell Γ)} (h : scCells (.k v) a = some cs) : a = .f (.c (.v v)) ∧ cs = [] := by
 cases a with
 | f x =>
  cases x with
  | c c =>
   simp only [scCells] at h
   cases hk : isK c v with
   | false => simp [hk] at h
   | true =>
    simp only [hk, cond_true] at h
    cases h
    rw [isK_eq hk]
    exact ⟨rfl, rfl⟩
  | agg _ => simp [scCells] at h
 | _ => simp [scCells] at h

theorem bc_cells {μ μ' : Mp} {w : World} : ∀ {bs : List BC} {cs0 cs : List (Cell Γ)} {vs0 : List Value}, bcCells bs cs0 = some cs → CellsRep base S μ w cs0 vs0 →
  ∃ vs, CellsRep base S μ w cs vs ∧ cs.length = (bcLs bs).length ∧ ∀ cs2 : List (Cell Γ), CellsRep base S μ' w cs2 vs → CellsRep base S μ' w (encBc bs cs2) vs0
 | [], [], cs, vs0, h, hr => by
  simp [bcCells] at h
  subst h
  cases vs0 with
  | nil => exact ⟨[], trivial, rfl, fun _ _ => trivial⟩
  | cons _ _ => exact hr.elim
 | .l x :: bs, c :: cs0, cs, [], h, hr => hr.elim
 | .k x :: bs, c :: cs0, cs, [], h, hr => hr.elim
 | .l x :: bs, c :: cs0, cs, v :: vs0, h, hr => by
  simp only [bcCells] at h
  split at h
  ·rename_i cs' h'
   cases h
   obtain ⟨vs, g1, g2, g3⟩ := bc_cells (μ' := μ') h' hr.2
   refine ⟨v :: vs, ⟨hr.1, g1⟩, by simp [bcLs, g2], fun cs2 hc => ?_⟩
   cases cs2 with
   | nil => exact hc.elim
   | cons c2 cs2 => exact ⟨hc.1, g3 _ hc.2⟩
  ·cases h
 | .k x :: bs, c :: cs0, cs, v :: vs0, h, hr => by
  simp only [bcCells] at h
  cases hk : isK c x with
  | false => simp [hk] at h
  | true =>
   simp only [hk, cond_true] at h
   obtain ⟨vs, g1, g2, g3⟩ := bc_cells (μ' := μ') h hr.2
   obtain rfl := isK_eq hk
   exact ⟨vs, g1, by simpa [bcLs] using g2, fun cs2 hc => ⟨hr.1, g3 _ hc⟩⟩
 | [], _ :: _, _, _, h, _ => by simp [bcCells] at h
 | .l _ :: _, [], _, _, h, _ => by simp [bcCells] at h
 | .k _ :: _, [], _, _, h, _ => by simp [bcCells] at h

theorem tm_cells {μ μ' : Mp} {w : World} (hst : Stays base S μ base S μ') {tm : Tm Γ} {a : Act} (htm : ∀ t, AVRep base S μ w (tmGet tm t) (a.eval (.tmp t))) : ∀ (l : List (Nat × SC)) (cs : List (Cell Γ)), (∀ x ∈ l, ∀ s o, x.2 = .box s o → μ'.ρ s = μ.ρ s) → tmCells tm l = some cs →
  ∃ vs, CellsRep base S μ w cs vs ∧ cs.length = (l.flatMap (fun x => x.2.ls)).length ∧ ∀ cs2 cs3 : List (Cell Γ), CellsRep base S μ' w cs2 vs → ∀ t, AVRep base S μ' w (tmGet (encTm l (cs2 ++ cs3)) t) (a.eval (.tmp t))
 | [], cs, _, h => by simp [tmCells] at h; subst h; exact ⟨[], trivial, rfl, fun _ _ _ _ => trivial⟩
 | (t0, sc) :: l, cs, hbx, h => by
  simp only [tmCells] at h
  split at h
  ·rename_i cs1 h1
   split at h
   ·rename_i cs2' h2
    cases h
    obtain ⟨vs2, g1, g2, g3⟩ := tm_cells hst htm l cs2' (fun x hx => hbx x (List.mem_cons_of_mem _ hx)) h2
    cases sc with
    | v vc =>
     obtain ⟨vs1, e1, e2, e3⟩ := av_reenc (base := base) (S := S) hst h1 (htm t0)
     refine ⟨vs1 ++ vs2, e1.append g1, by simp [g2, e2, SC.ls], fun cs2 cs3 hc t => ?_⟩
     have hl1 : vs1.length = vc.ls.length := by rw [← e1.length, e2]
     have hcl := hc.length
     have ht := hc.take vc.ls.length
     have hd := hc.drop vc.ls.length
     rw [List.take_left' hl1] at ht
     rw [List.drop_left' hl1] at hd
     have hle : vc.ls.length ≤ cs2.length := by rw [hcl]; simp; omega
     simp only [encTm, tmGet]
     rw [List.take_append_of_le_length hle, List.drop_append_of_le_length hle]
     cases hb : Nat.beq t0 t with
     | true => obtain rfl := Nat.eq_of_beq_eq_true hb; exact e3 _ ht
     | false => exact g3 _ _ hd t
    | box s o =>
     have hp := htm t0
     obtain ⟨heq2, rfl⟩ := scCells_box h1
     refine ⟨vs2, g1, by simpa [SC.ls] using g2, fun cs2 cs3 hc t => ?_⟩
     simp only [encTm, tmGet]
     cases hb : Nat.beq t0 t with
     | true =>
      obtain rfl := Nat.eq_of_beq_eq_true hb
      rw [heq2] at hp
      obtain ⟨g, e1, e2⟩ := hp
      exact ⟨g, by rw [hbx _ List.mem_cons_self s o rfl]; exact e1, e2⟩
     | false => exact g3 _ _ hc t
    | k v =>
     have hp := htm t0
     obtain ⟨heq2, rfl⟩ := scCells_k h1
     refine ⟨vs2, g1, by simpa [SC.ls] using g2, fun cs2 cs3 hc t => ?_⟩
     simp only [encTm, tmGet]
     cases hb : Nat.beq t0 t with
     | true =>
      obtain rfl := Nat.eq_of_beq_eq_true hb
      rw [heq2] at hp
      exact hp
     | false => exact g3 _ _ hc t
   ·cases h
  ·cases h

theorem bx_cells {μ μ' : Mp} {w : World} {bx : Bx Γ} (hb : ∀ s T cs, bxGet bx s = some (T, cs) → BoxRep base S μ w s T cs) : ∀ (l : List (Nat × Nat × List BC)) (cs : List (Cell Γ)), (∀ x ∈ l, μ'.ρ x.1 = μ.ρ x.1) → bxCells bx l = some cs →
  ∃ vs, CellsRep base S μ w cs vs ∧ cs.length = (l.flatMap (fun x => bcLs x.2.2)).length ∧ ∀ cs2 : List (Cell Γ), CellsRep base S μ' w cs2 vs → (∀ s T cs, bxGet (encBx l cs2) s = some (T, cs) → BoxRep base S μ' w s T cs)
 | [], cs, _, h => by simp [bxCells] at h; subst h; exact ⟨[], trivial, rfl, fun _ _ s T cs h => by simp [encBx, bxGet] at h⟩
 | (s0, T0, bs) :: l, cs, hρ, h => by
  simp only [bxCells] at h
  split at h
  ·rename_i T' cs0 h1
   cases hbb : T0.beq T' with
   | false => simp [hbb] at h
   | true =>
    simp only [hbb, cond_true] at h
    obtain rfl := Nat.eq_of_beq_eq_true hbb
    split at h
    ·rename_i cs1 hbc
     split at h
     ·rename_i cs2' h2
      cases h
      obtain ⟨vs2, g1, g2, g3⟩ := bx_cells (μ' := μ') hb l cs2' (fun x hx => hρ x (List.mem_cons_of_mem _ hx)) h2
      obtain ⟨g, cur, e1, e2, e3⟩ := hb s0 T0 cs0 h1
      obtain ⟨vs1, f1, f2, f3⟩ := bc_cells (μ' := μ') hbc e3
      refine ⟨vs1 ++ vs2, f1.append g1, by simp [g2, f2], fun cs2 hc s T cs hs => ?_⟩
      have hl1 : vs1.length = (bcLs bs).length := by rw [← f1.length, f2]
      have ht := hc.take (bcLs bs).length
      have hd := hc.drop (bcLs bs).length
      rw [List.take_left' hl1] at ht
      rw [List.drop_left' hl1] at hd
      simp only [encBx, bxGet] at hs
      cases hbq : Nat.beq s0 s with
      | true =>
       obtain rfl := Nat.eq_of_beq_eq_true hbq
       rw [hbq] at hs
       cases hs
       exact ⟨g, cur, by rw [hρ _ List.mem_cons_self]; exact e1, e2, f3 _ ht⟩
      | false => rw [hbq] at hs; exact g3 _ hd s T cs hs
     ·cases h
    ·cases h
  ·cases h

theorem encBx_none : ∀ (l : List (Nat × Nat × List BC)) (cs : List (Cell Γ)) (s : Nat), bxGet (encBx l cs) s = none → ∀ x ∈ l, x.1 ≠ s
 | [], _, _, _, _, hx => by simp at hx
 | (s0, T, ls) :: l, cs, s, h, x, hx => by
  simp only [encBx, bxGet] at h
  cases hb : Nat.beq s0 s with
  | true => rw [hb] at h; cases h
  | false =>
   rw [hb] at h
   rcases List.mem_cons.1 hx with rfl | hx
   ·intro e; subst e; rw [Nat.beq_refl] at hb; cases hb
   ·exact encBx_none l _ s h x hx

theorem onSt_inv {R : Type} (m : Nat) {sh : Sh} {st : St Γ} {G : PT Γ sh.ls → Option R} {r : R} (h : onSt sh st G = some r) {a : Act} {w : World} {μ : Mp} (hi : Inv base S w0 n st a w μ) :
  ∃ x μ', G x = some r ∧ Inv base S w0 n (encSt m sh x) a w μ' := by
 unfold onSt at h
 cases hcl : sh.closed with
 | false => simp [hcl] at h
 | true =>
  simp only [hcl, Bool.not_true, cond_false] at h
  split at h
  ·rename_i cs1 h1
   split at h
   ·rename_i cs2 h2
    cases htk : toksOK sh.ls (cs1 ++ cs2) [] with
    | false => simp [htk] at h
    | true =>
     simp only [htk, cond_true] at h
     split at h
     ·rename_i x hx
      let inB : Nat → Bool := fun s => sh.bx.any fun y => y.1.beq s
      let μ' : Mp := ⟨fun s => if inB s = true then μ.ρ s else none, fun d j => bif m.beq d then newTok μ sh.ls (cs1 ++ cs2) j else none⟩
      have hρ : ∀ s g, μ'.ρ s = some g → μ.ρ s = some g := fun s g e => by
       simp only [μ'] at e
       split at e
       ·exact e
       ·cases e
      have hτ : ∀ d j v, μ'.τ d j = some v → d = m ∧ newTok μ sh.ls (cs1 ++ cs2) j = some v := fun d j v e => by
       simp only [μ'] at e
       cases hd : m.beq d with
       | true => rw [hd] at e; exact ⟨(Nat.eq_of_beq_eq_true hd).symm, e⟩
       | false => rw [hd] at e; cases e
      have hst : Stays base S μ base S μ' := fun b oo hs hb => ⟨fun s e => (hs hb).1 s (hρ s b e), fun d j u e => by
       obtain ⟨_, e⟩ := hτ d j _ e
       obtain ⟨_, _, _, p, q, _, _, ht⟩ := newTok_inv e
       exact (hs hb).2 p q u ht⟩
      have hinB : ∀ x ∈ sh.bx, inB x.1 = true := fun x hx => by
       simp only [inB, List.any_eq_true]
       exact ⟨x, hx, Nat.beq_refl _⟩
      have hρB : ∀ x ∈ sh.bx, μ'.ρ x.1 = μ.ρ x.1 := fun x hx => by simp [μ', hinB x hx]
      have hcb : ∀ x ∈ sh.tm, ∀ s o, x.2 = .box s o → μ'.ρ s = μ.ρ s := fun x hx s o e => by
       have := List.all_eq_true.1 hcl x hx
       rw [e] at this
       have hin : inB s = true := this
       simp [μ', hin]
      obtain ⟨vs1, a1, a2, a3⟩ := tm_cells hst hi.tm sh.tm cs1 hcb h1
      obtain ⟨vs2, b1, b2, b3⟩ := bx_cells (μ' := μ') hi.bx sh.bx cs2 hρB h2
      have hall : CellsRep base S μ w (cs1 ++ cs2) (vs1 ++ vs2) := a1.append b1
      have hnew : CellsRep base S μ' w (encLeaves (Own.tok m) 0 sh.ls x) (vs1 ++ vs2) := by
       refine leaves_rep (fun b oo hs hst' => ⟨hst b oo hst', hs⟩) sh.ls _ _ x 0 hx hall (fun j e xs o' he hc hmine A nn cc hown => ?_) (fun _ _ => .inl rfl)
       rw [Nat.zero_add]
       cases o' with
       | ro => cases hmine
       | full => exact .inl hown
       | tok p q =>
        rcases hown with hown | ⟨g, cur, f1, f2, f3, f4⟩
        ·exact .inl hown
        ·refine .inr ⟨g, cur, f1, f2, ?_, f4⟩
         have e1 : m.beq m = true := Nat.beq_refl m
         simp only [μ', e1, cond_true, newTok, he, hc, f3]
      have hl1 : vs1.length = (sh.tm.flatMap (fun x => x.2.ls)).length := by rw [← a1.length, a2]
      have hnt := hnew.take (sh.tm.flatMap (fun x => x.2.ls)).length
      have hnd := hnew.drop (sh.tm.flatMap (fun x => x.2.ls)).length
      rw [List.take_left' hl1] at hnt
      rw [List.drop_left' hl1] at hnd
      refine ⟨x, μ', h, ⟨⟨fun s s' g e e' => hi.maps.ρinj s s' g (hρ s g e) (hρ s' g e'), fun s g e => hi.maps.ρnew s g (hρ s g e), fun d j g u e => ?_, fun d j d' j' g u u' e e' => ?_⟩, hi.below, hi.le, fun t => ?_, b3 _ hnd, fun s hs => ?_, hi.defers, hi.size⟩⟩
      ·obtain ⟨_, e⟩ := hτ d j _ e
       obtain ⟨_, _, _, p, q, _, _, ht⟩ := newTok_inv e
       obtain ⟨g1, g2, g3⟩ := hi.maps.τnew p q g u ht
       exact ⟨g1, g2, fun s e' => g3 s (hρ s g e')⟩
      ·obtain ⟨e0, e⟩ := hτ d j _ e
       obtain ⟨e0', e'⟩ := hτ d' j' _ e'
       refine ⟨e0.trans e0'.symm, ?_⟩
       obtain ⟨_, _, _, p, q, c1, c2, ht⟩ := newTok_inv e
       obtain ⟨_, _, _, p', q', c1', c2', ht'⟩ := newTok_inv e'
       obtain ⟨rfl, rfl⟩ := hi.maps.τinj _ _ _ _ _ _ _ ht ht'
       exact toks_inj sh.ls (cs1 ++ cs2) [] htk j j' _ _ _ _ _ _ _ _ c1 c2 c1' c2'
      ·have := a3 _ ((encLeaves (Own.tok m) 0 sh.ls x).drop (sh.tm.flatMap (fun x => x.2.ls)).length) hnt t
       rw [List.take_append_drop] at this
       exact this
      ·have := encBx_none sh.bx _ s hs
       have hin : inB s = false := by
        cases hh : inB s with
        | false => rfl
        | true =>
         simp only [inB, List.any_eq_true] at hh
         obtain ⟨x, hx, hxs⟩ := hh
         exact absurd (Nat.eq_of_beq_eq_true hxs) (this x hx)
       simp [μ', hin]
     ·cases h
   ·cases h
  ·cases h


def Ex.to : Ex → Exit
 | .normal => .normal
 | .exit id => .exit id
 | .ret => .ret

def StepsOK {R : Type} (m : Nat) (l : List (Step Γ R)) : Prop := ∀ s ∈ l, (∀ x, s.p.g 0 x = none) ∧ ∀ k x, s.p.g (k + 1) x = s.go k (encSt m s.p.sh x)

theorem exec_sound {R : Type} (C : CtxOK P Γ) {E : Nat → List (Ent Γ)} (hE : ∀ k, ∀ e ∈ E k, EntOK P e) {Ps : List (Pn Γ R)} {m : Nat} {r : R} : ∀ (c : Code) (cur : Nat) (K : Kont Γ R), StepsOK m (steps n E Ps c cur K) → ∀ (k : Nat) (Q : Exit → Act → World → Prop),
  (∀ k', k' ≤ k → ∀ e st a w μ, K k' e st = some r → Inv base S w0 n st a w μ → Q e.to a w) → ∀ (st : St Γ) (a : Act) (w : World) (μ : Mp), exec n E Ps c k cur st K = some r → Inv base S w0 n st a w μ → c.wp P Q a w := by
 intro c
 induction c with
 | skip => intro cur K hS k Q hQ st a w μ h hi; exact wp_skip (hQ k (Nat.le_refl _) .normal st a w μ h hi)
 | region id ops draw =>
  intro cur K hS k Q hQ st a w μ h hi
  have hend : ∀ (k : Nat), (∀ k', k' ≤ k → ∀ e st a w μ, K k' e st = some r → Inv base S w0 n st a w μ → Q e.to a w) → ∀ st' a' w' μ', Inv base S w0 n st' a' w' μ' → endK Ps id K k st' = some r → Q .normal a' w' := by
   intro k hQ st' a' w' μ' hi' hk'
   unfold endK at hk'
   split at hk'
   ·rename_i p hp
    obtain ⟨x, μ'', h1, hi1⟩ := onSt_inv m hk' hi'
    have hs := hS ⟨p, fun k st => K k .normal st⟩ (by simp only [steps, hp]; exact List.mem_append_right _ (List.mem_singleton.2 rfl))
    cases k with
    | zero => rw [hs.1 x] at h1; cases h1
    | succ k =>
     rw [hs.2 k x] at h1
     exact hQ k (by omega) .normal _ _ _ _ h1 hi1
   ·exact hQ k (Nat.le_refl _) .normal _ _ _ _ hk' hi'
  rw [exec] at h
  split at h
  ·rename_i p hp
   obtain ⟨x, μ', h1, hi1⟩ := onSt_inv m h hi
   have hs := hS ⟨p, fun k st => region n (E k) ops.toList draw st (endK Ps id K k)⟩ (by simp only [steps, hp]; exact List.mem_append_left _ (List.mem_singleton.2 rfl))
   cases k with
   | zero => rw [hs.1 x] at h1; cases h1
   | succ k =>
    rw [hs.2 k x] at h1
    exact region_sound C (hE k) h1 hi1 fun st' a' w' μ' hi' hk' => hend k (fun k' h' => hQ k' (by omega)) st' a' w' μ' hi' hk'
  ·exact region_sound C (hE k) h hi fun st' a' w' μ' hi' hk' => hend k hQ st' a' w' μ' hi' hk'
 | seq x y ihx ihy =>
  intro cur K hS k Q hQ st a w μ h hi
  rw [exec] at h
  have hSx : StepsOK m (steps n E Ps x cur (seqK (fun k st => exec n E Ps y k cur st K) K)) := fun s hs => hS s (by simp only [steps]; exact List.mem_append_left _ hs)
  have hSy : StepsOK m (steps n E Ps y cur K) := fun s hs => hS s (by simp only [steps]; exact List.mem_append_right _ hs)
  refine wp_seq (ihx cur _ hSx k _ (fun k' hk' e st a w μ hk hi' => ?_) st a w μ h hi)
  cases e with
  | normal => exact ihy cur K hSy k' Q (fun k'' h'' => hQ k'' (by omega)) st a w μ hk hi'
  | exit id => exact hQ k' hk' (.exit id) st a w μ hk hi'
  | ret => exact hQ k' hk' .ret st a w μ hk hi'
 | cond cnd x y ihx ihy =>
  intro cur K hS k Q hQ st a w μ h hi
  cases cnd with
  | tmp t =>
   rw [exec] at h
   obtain ⟨b, hb, hh⟩ := condT_inv h (hi.tm t)
   have hSx : StepsOK m (steps n E Ps x cur K) := fun s hs => hS s (by simp only [steps]; exact List.mem_append_left _ hs)
   have hSy : StepsOK m (steps n E Ps y cur K) := fun s hs => hS s (by simp only [steps]; exact List.mem_append_right _ hs)
   refine wp_cond_split hb (fun e => ?_) (fun e => ?_)
   ·subst e; exact ihx cur K hSx k Q hQ _ a w μ (by simpa using hh) (hi.putB hb)
   ·subst e; exact ihy cur K hSy k Q hQ _ a w μ (by simpa using hh) (hi.putB hb)
  | _ => cases h
 | block id c ih =>
  intro cur K hS k Q hQ st a w μ h hi
  rw [exec] at h
  refine wp_block (ih id _ hS k _ (fun k' hk' e st a w μ hk hi' => ?_) st a w μ h hi)
  cases e with
  | normal => exact hQ k' hk' .normal st a w μ hk hi'
  | ret => exact hQ k' hk' .ret st a w μ hk hi'
  | exit i =>
   simp only [blockK] at hk
   show (if i = id then Q .normal a w else Q (.exit i) a w)
   cases hb : i.beq id with
   | true =>
    rw [hb] at hk
    rw [if_pos (Nat.eq_of_beq_eq_true hb)]
    exact hQ k' hk' .normal st a w μ hk hi'
   | false =>
    rw [hb] at hk
    rw [if_neg (fun e => by subst e; rw [Nat.beq_refl] at hb; cases hb)]
    exact hQ k' hk' (.exit i) st a w μ hk hi'
 | loop c ih =>
  intro cur K hS k Q hQ st a w μ h hi
  rw [exec] at h
  split at h
  ·rename_i p hp
   obtain ⟨x, μ', h1, hi1⟩ := onSt_inv m h hi
   have hmem : (⟨p, fun k st => exec n E Ps c k cur st (loopK p K)⟩ : Step Γ R) ∈ steps n E Ps (.loop c) cur K := by simp [steps, hp]
   have hs := hS _ hmem
   have hSc : StepsOK m (steps n E Ps c cur (loopK p K)) := fun s hs' => hS s (by simp only [steps, hp]; exact List.mem_cons_of_mem _ hs')
   have key : ∀ (j : Nat), j ≤ k → ∀ (i : Nat), i ≤ j → ∀ (x : PT Γ p.sh.ls) (a : Act) (w : World) (μ : Mp), p.g i x = some r → Inv base S w0 n (encSt m p.sh x) a w μ → Code.rounds P c Q j a w := by
    intro j
    induction j with
    | zero =>
     intro _ i hij x a w μ h _
     obtain rfl : i = 0 := by omega
     rw [hs.1 x] at h; cases h
    | succ j ihj =>
     intro hjk i hij x a w μ h hi
     cases i with
     | zero => rw [hs.1 x] at h; cases h
     | succ i =>
      rw [hs.2 i x] at h
      rw [rounds_succ]
      refine ih cur (loopK p K) hSc i _ (fun k' hk' e st a w μ hk hi' => ?_) _ a w μ h hi
      cases e with
      | normal =>
       obtain ⟨x', μ'', h2, hi2⟩ := onSt_inv m (sh := p.sh) (G := p.g k') hk hi'
       exact ihj (by omega) k' (by omega) x' a w μ'' h2 hi2
      | exit id => exact hQ k' (by omega) (.exit id) st a w μ hk hi'
      | ret => exact hQ k' (by omega) .ret st a w μ hk hi'
   exact wp_loop_rounds k (key k (Nat.le_refl _) k (Nat.le_refl _) x a w μ' h1 hi1)
  ·cases h
 | exit id => intro cur K hS k Q hQ st a w μ h hi; exact wp_exit (hQ k (Nat.le_refl _) (.exit id) st a w μ h hi)
 | ret => intro cur K hS k Q hQ st a w μ h hi; exact wp_ret (hQ k (Nat.le_refl _) .ret st a w μ h hi)
 | _ => intro cur K hS k Q hQ st a w μ h hi; cases h


def rvRun (tmps : Array Value) : ResultVar → Sem Value := fun
  | .tmp t => pure (tmps.getD t undef)
  | .cell a t => do loadVar t (← asAddr (tmps.getD a undef))

theorem results_rv (fn : Func) (tmps : Array Value) : results fn tmps = (do let vs ← fn.results.mapM (rvRun tmps); pure (if h : vs.size = 1 then vs[0] else .tuple vs)) := rfl

theorem resAV_inv {R : Type} (C : CtxOK P Γ) {st : St Γ} {rv : ResultVar} {K : AV Γ → Option R} {r : R} (h : resAV st rv K = some r) {a : Act} {w : World} {μ : Mp} (hi : Inv base S w0 n st a w μ) :
  ∃ v y, K v = some r ∧ AVRep base S μ w v y ∧ (rvRun a.tmps rv).run P w = .ok y w := by
 cases rv with
 | tmp t => exact ⟨_, _, h, hi.tm t, rfl⟩
 | cell x t =>
  simp only [resAV] at h
  split at h
  ·rename_i s off hx
   split at h
   ·rename_i T cs hb
    obtain ⟨v, hv, hh⟩ := loadAV_inv C h
    have hp := hi.tm x
    rw [hx] at hp
    obtain ⟨g, e1, e2⟩ := hp
    obtain ⟨g', e3, e4⟩ := (hi.bx s T cs hb).cells off
    obtain rfl : g = g' := by rw [e1] at e3; injection e3
    obtain ⟨y, e5, e6⟩ := hh base S μ w g off e4
    refine ⟨v, y, hv, e6, ?_⟩
    have e2' : a.tmps.getD x undef = .pointer (some ⟨g, off, none⟩) := e2
    simp only [rvRun, e2', asAddr, Sem.run_bind, Sem.run_pure, Result.andThen_ok, e5]
   ·cases h
  ·cases h

theorem resAVs_inv {R : Type} (C : CtxOK P Γ) {st : St Γ} {a : Act} {w : World} {μ : Mp} (hi : Inv base S w0 n st a w μ) : ∀ {rs : List ResultVar} {K : List (AV Γ) → Option R} {r : R}, resAVs st rs K = some r →
  ∃ vs ys, K vs = some r ∧ AVsRep base S μ w vs ys ∧ (rs.mapM (rvRun a.tmps)).run P w = .ok ys w ∧ ys.length = rs.length
 | [], K, r, h => ⟨[], [], h, trivial, rfl, rfl⟩
 | rv :: rs, K, r, h => by
  obtain ⟨v, y, h1, h2, h3⟩ := resAV_inv (P := P) C (K := fun v => resAVs st rs fun vs => K (v :: vs)) h hi
  obtain ⟨vs, ys, g1, g2, g3, g4⟩ := resAVs_inv C hi h1
  refine ⟨v :: vs, y :: ys, g1, ⟨h2, g2⟩, ?_, by simp [g4]⟩
  simp only [List.mapM_cons, Sem.run_bind, h3, g3, Result.andThen_ok, Sem.run_pure]

theorem args_reenc {base' : Nat} {S' : Nat → Nat → Prop} {μ μc : Mp} {w : World} (hst : Stays base' S' μc base S μ) : ∀ (vcs : List VC) (avs : List (AV Γ)) (ys : List Value) (cs : List (Cell Γ)), argCells vcs avs = some cs → AVsRep base' S' μc w avs ys →
  ∃ vs, CellsRep base' S' μc w cs vs ∧ cs.length = (vcs.flatMap VC.ls).length ∧ ys.length = vcs.length ∧ ∀ cs2 : List (Cell Γ), CellsRep base S μ w cs2 vs → AVsRep base S μ w (argAVs vcs cs2) ys
 | [], [], [], cs, h, _ => by simp [argCells] at h; subst h; exact ⟨[], trivial, rfl, rfl, fun _ _ => trivial⟩
 | v :: vcs, a :: avs, y :: ys, cs, h, hr => by
  simp only [argCells] at h
  split at h
  ·rename_i cs1 h1
   split at h
   ·rename_i cs2 h2
    cases h
    obtain ⟨vs2, g1, g2, g3, g4⟩ := args_reenc hst vcs avs ys cs2 h2 hr.2
    obtain ⟨vs1, e1, e2, e3⟩ := av_reenc (base := base) (S := S) hst h1 hr.1
    refine ⟨vs1 ++ vs2, e1.append g1, by simp [g2, e2], by simp [g3], fun cs2 hc => ?_⟩
    have hl1 : vs1.length = v.ls.length := by rw [← e1.length, e2]
    have ht := hc.take v.ls.length
    have hd := hc.drop v.ls.length
    rw [List.take_left' hl1] at ht
    rw [List.drop_left' hl1] at hd
    refine ⟨?_, g4 _ hd⟩
    have := e3 _ ht
    cases v with
    | c l =>
     cases cs2 with
     | nil => exact this
     | cons c cs2 => exact this
    | agg ls => simpa [argAV, fvOf, VC.ls, List.take_take] using this
    | clo f caps =>
     have hcr : ∀ (caps : List (List LC)) (zs : List (Cell Γ)), capRefs caps (zs.take caps.flatten.length) = capRefs caps zs := by
      intro caps
      induction caps with
      | nil => intro zs; rfl
      | cons l caps ih =>
       intro zs
       simp only [capRefs, List.flatten_cons, List.length_append]
       rw [List.take_take, Nat.min_eq_left (by omega), List.drop_take, Nat.add_sub_cancel_left, ih]
     simp only [argAV, VC.ls] at this ⊢
     rwa [hcr] at this
    | ref ls => simpa [argAV, VC.ls, List.take_take] using this
   ·cases h
  ·cases h
 | [], _ :: _, _, _, h, _ => by simp [argCells] at h
 | _ :: _, [], _, _, h, _ => by simp [argCells] at h
 | [], [], _ :: _, _, _, hr => hr.elim
 | _ :: _, _ :: _, [], _, _, hr => hr.elim

theorem zip_rep {μ : Mp} {w : World} : ∀ (as : List (AV Γ)) (ys : List Value) (i : Nat), AVsRep base S μ w as ys → ∀ t, AVRep base S μ w (tmGet (zipTm i as) t) (if i ≤ t then ys.getD (t - i) undef else undef)
 | [], [], i, _, t => trivial
 | a :: as, y :: ys, i, h, t => by
  simp only [zipTm, tmGet]
  cases hb : Nat.beq i t with
  | true => obtain rfl := Nat.eq_of_beq_eq_true hb; simpa using h.1
  | false =>
   have hne : i ≠ t := fun e => by subst e; rw [Nat.beq_refl] at hb; cases hb
   have := zip_rep as ys (i + 1) h.2 t
   by_cases hle : i + 1 ≤ t
   ·rw [if_pos hle] at this
    rw [if_pos (by omega)]
    rw [show t - i = (t - (i + 1)) + 1 by omega, List.getD_cons_succ]
    exact this
   ·rw [if_neg hle] at this
    rw [if_neg (by omega)]
    exact this
 | [], _ :: _, _, h, _ => h.elim
 | _ :: _, [], _, h, _ => h.elim

def resForm (rc : RC) (k : Nat) : Bool :=
 match rc with
 | .one _ => k.beq 1
 | .tup _ => !(k.beq 1)

theorem entOK {m k : Nat} (C : CtxOK P Γ) {E : Nat → List (Ent Γ)} (hE : ∀ k, ∀ e ∈ E k, EntOK P e) {e : Ent Γ} {fn : Func} {c : Code} (hf : P.funcs[e.f]? = some fn) (hb : fn.body = some c) (hname : (fn.name == "runtime.NumGoroutine") = false) (hres : e.res.ok = true)
  (hform : resForm e.res fn.results.size = true) (hargs : e.args.length ≤ fn.ntmps) {Ps : List (Pn Γ (PT Γ e.res.ls))} (hS : StepsOK m (steps fn.ntmps E Ps c 0 (finK fn.results.toList e.res)))
  (hfn : ∀ x, e.fn x = exec fn.ntmps E Ps c k 0 (startSt e.args x) (finK fn.results.toList e.res)) : EntOK P e := by
 refine ⟨hres, ⟨fn, hf, hname, by rw [hb]; rfl⟩, fun S w avs vals cs x y h1 h2 h3 h4 => ?_⟩
 have hm0 : MapsOK w.heap.size μ0 w := { ρinj := fun s s' g h => by simp [μ0] at h, ρnew := fun s g h => by simp [μ0] at h, τnew := fun d j g u h => by simp [μ0] at h, τinj := fun d j d' j' g u u' h => by simp [μ0] at h }
 obtain ⟨vs, g1, g2, g3, g4⟩ := args_reenc (base := w.heap.size) (S := S) (μ := μ0) (fun b oo h => h) e.args avs vals cs h1 h4
 have hnew : CellsRep w.heap.size S μ0 w (encLeaves (fun _ => Own.ro) 0 (e.args.flatMap VC.ls) x) vs :=
  leaves_rep (fun b oo hs hst => ⟨hst, hs⟩) _ _ _ x 0 h2 g1 (fun _ _ _ _ _ _ _ _ _ _ _ => trivial) (fun _ _ => trivial)
 have hav := g4 _ hnew
 have hvl : vals.length ≤ fn.ntmps := by omega
 refine calls_of_wp hf hb ?_
 rw [hfn x] at h3
 refine exec_sound (base := w.heap.size) (S := S) (w0 := w) C hE c 0 (finK fn.results.toList e.res) hS k _ (fun k' _ en st a w' μ hk hi => ?_) (startSt e.args x) _ w μ0 h3 ⟨hm0, Below.refl _ _, Nat.le_refl _, fun t => ?_, fun s T cs h => by simp [startSt, bxGet] at h, fun s _ => rfl, rfl, by simp; omega⟩
 ·have hpost : ∀ (hk : resAVs st fn.results.toList (fun vs => match argCells e.res.vcs vs with | some cs => bif toksOK e.res.ls cs [] then decLeaves e.res.ls cs else none | none => none) = some y), a.defers = [] ∧ ∃ v, (results fn a.tmps).run P w' = .ok v w' ∧ (∃ v', Ending.returned v = .returned v' ∧ Below w.heap.size w w' ∧ ResOK Γ S w w' e.res y v') := by
   intro hk
   obtain ⟨vs, ys, r1, r2, r3, r4⟩ := resAVs_inv (P := P) C hi hk
   refine ⟨hi.defers, resVal e.res ys, ?_, resVal e.res ys, rfl, hi.below, ?_⟩
   ·have hlen : ys.toArray.size = fn.results.size := by simp [r4]
    rw [results_rv]
    simp only [Sem.run_bind]
    rw [Array.mapM_eq_mapM_toList]
    simp only [Sem.run_map, r3, Result.andThen_ok, Sem.run_pure]
    congr 1
    cases hrc : e.res with
    | one v =>
     rw [hrc] at hform
     have h1 : fn.results.size = 1 := Nat.eq_of_beq_eq_true hform
     cases ys with
     | nil => simp [h1] at hlen
     | cons y ys =>
      cases ys with
      | nil => simp [resVal]
      | cons _ _ => simp [h1] at hlen
    | tup v =>
     rw [hrc] at hform
     have h1 : fn.results.size ≠ 1 := fun e => by simp [resForm, e] at hform
     have : ¬ (ys.toArray.size = 1) := by rw [hlen]; exact h1
     simp [resVal, this]
     intro h
     exact absurd (by simpa using h) this
   ·split at r1
    ·rename_i cs hcs
     cases htk : toksOK e.res.ls cs [] with
     | false => simp [htk] at r1
     | true =>
      simp only [htk, cond_true] at r1
      exact ⟨μ, vs, ys, cs, hi.maps, r2, hcs, htk, r1, rfl⟩
    ·cases r1
  cases en with
  | normal => exact hpost hk
  | ret => exact hpost hk
  | exit id => cases hk
 ·have hz := zip_rep (base := w.heap.size) (S := S) (μ := μ0) (w := w) _ vals 0 hav t
  simp only [Nat.zero_le, if_true, Nat.sub_zero] at hz
  have hev : (Act.eval { tmps := vals.toArray ++ Array.replicate (fn.ntmps - vals.toArray.size) undef, defers := [] } (.tmp t)) = vals.getD t undef := by
   simp only [Act.eval, Array.getD_eq_getD_getElem?, List.getD_eq_getElem?_getD]
   rcases Nat.lt_or_ge t vals.length with h | h
   ·rw [Array.getElem?_append_left (by simpa using h)]
    simp
   ·rw [Array.getElem?_append_right (by simpa using h), List.getElem?_eq_none h]
    rw [Array.getElem?_replicate]
    split <;> rfl
  rw [hev]
  exact hz

end

def tdGet : List (Nat × TD) → Nat → TD
 | [], _ => .ot
 | (i, d) :: r, t => bif Nat.beq i t then d else tdGet r t

def kdGet (d : KD) : List (Nat × KD) → Nat → KD
 | [], _ => d
 | (i, k) :: r, t => bif Nat.beq i t then k else kdGet d r t

section
variable {Γ : Ctx} {P : Program}

def TDsOK (P : Program) (Γ : Ctx) : List (Nat × TD) → Prop
 | [] => True
 | x :: r => TDOK P Γ x.1 x.2 ∧ TDsOK P Γ r

theorem tds_ok : ∀ {l : List (Nat × TD)}, TDsOK P Γ l → ∀ t, TDOK P Γ t (tdGet l t)
 | [], _, _ => trivial
 | (i, d) :: r, h, t => by
  simp only [tdGet]
  cases hb : Nat.beq i t with
  | true => obtain rfl := Nat.eq_of_beq_eq_true hb; exact h.1
  | false => exact tds_ok h.2 t

def fdB (P : Program) (f : Fd) (g : Field) : Bool :=
 (((Nat.beq g.offset f.off).and (Nat.beq g.type f.ty)).and ((match P.info? g.type with | some i => Nat.beq i.size f.sz | none => false).and (Nat.blt 0 f.sz))).and
  ((match P.underlying g.type with | some d => !((aggD d).xor f.agg) | none => false).and (!(g.name == "_")))

def fdsB (P : Program) : List Fd → List Field → Bool
 | [], [] => true
 | f :: fs, g :: gs => (fdB P f g).and (fdsB P fs gs)
 | _, _ => false

theorem fdB_ok {f : Fd} {g : Field} (h : fdB P f g = true) : FdOK P f g := by
 simp only [fdB, Bool.and_eq_true] at h
 obtain ⟨⟨⟨h1, h2⟩, h3, h4⟩, h5, h6⟩ := h
 refine ⟨Nat.eq_of_beq_eq_true h1, Nat.eq_of_beq_eq_true h2, ?_, ?_, ?_, ?_⟩
 ·cases hi : P.info? g.type with
  | none => rw [hi] at h3; cases h3
  | some i => rw [hi] at h3; simp [Nat.eq_of_beq_eq_true h3]
 ·exact Nat.le_of_ble_eq_true h4
 ·cases hu : P.underlying g.type with
  | none => rw [hu] at h5; cases h5
  | some d => rw [hu] at h5; simpa using h5
 ·simpa using h6

theorem fdsB_ok : ∀ {fs : List Fd} {gs : List Field}, fdsB P fs gs = true → FdsOK P fs gs
 | [], [], _ => trivial
 | f :: fs, g :: gs, h => by
  simp only [fdsB, Bool.and_eq_true] at h
  exact ⟨fdB_ok h.1, fdsB_ok h.2⟩
 | [], _ :: _, h => by cases h
 | _ :: _, [], h => by cases h

theorem info_of {α : Type} {t : Nat} {f : TypeInfo → α} {x : α} (h : (P.info? t).map f = some x) : ∃ i, P.info? t = some i ∧ f i = x := by
 cases hi : P.info? t with
 | none => rw [hi] at h; cases h
 | some i => rw [hi] at h; exact ⟨i, rfl, by simpa using h⟩

theorem tdOk_st {t sz : Nat} {zs : List Zc} {fs : List Fd} {fields : Array Field} (h1 : P.underlying t = some (.struct fields)) (h2 : (P.info? t).map (fun i => (i.size, i.zero)) = some (sz, some (.agg (zs.map zcVal).toArray))) (h3 : zs.length = sz) (h4 : fdsB P fs fields.toList = true)
  (h5 : P.stoodInHeld t = false) (h6 : P.eqGuardType P.depth t = false) : TDOK P Γ t (.st sz zs fs) := by
 obtain ⟨i, hi, e⟩ := info_of h2
 injection e with e1 e2
 exact ⟨fields, i, h1, hi, e1, e2, h3, fdsB_ok h4, h5, h6⟩

theorem tdOk_ar {t n e esz : Nat} {zs : List Zc} (h1 : P.underlying t = some (.array n e)) (h2 : (P.info? t).map (fun i => (i.size, i.zero)) = some (n * esz, some (.agg (zs.map zcVal).toArray))) (h3 : zs.length = n * esz)
  (h4 : (P.info? e).map (fun i => i.size) = some esz) (h5 : esz = (Γ.kd e).K.sz) : TDOK P Γ t (.ar n e esz zs) := by
 obtain ⟨i, hi, e1⟩ := info_of h2
 injection e1 with e1 e2
 obtain ⟨ie, hie, e3⟩ := info_of h4
 exact ⟨i, ie, h1, hi, e1, e2, h3, hie, e3, h5⟩

theorem tdOk_sl {t e bytes : Nat} {z : Value} (h1 : P.underlying t = some (.slice e)) (h2 : (P.info? t).map (fun i => (i.size, i.zero)) = some (1, some (.slice none 0 0)))
  (h3 : (P.info? e).map (fun i => (i.size, i.zero, i.bytes)) = some ((Γ.kd e).K.sz, some z, bytes)) (h4 : z.cells.size = (Γ.kd e).K.sz) (h5 : Nat.blt 0 bytes = true) : TDOK P Γ t (.sl e bytes) := by
 obtain ⟨i, hi, e1⟩ := info_of h2
 injection e1 with e1 e2
 obtain ⟨ie, hie, e3⟩ := info_of h3
 injection e3 with e3 e4
 injection e4 with e4 e5
 exact ⟨i, ie, z, h1, hi, e1, e2, hie, e4, e3, e5, h4.trans e3.symm, Nat.le_of_ble_eq_true h5⟩

theorem tdOk_int {t : Nat} {k : IntKind} (h1 : P.underlying t = some (.int k)) (h2 : (P.info? t).map (fun i => (i.size, i.zero)) = some (1, some (.int k 0))) : TDOK P Γ t (.int k) := by
 obtain ⟨i, hi, e1⟩ := info_of h2
 injection e1 with e1 e2
 exact ⟨h1, i, hi, e1, e2⟩

theorem tdOk_str {t : Nat} (h1 : P.underlying t = some .string) (h2 : (P.info? t).map (fun i => (i.size, i.zero)) = some (1, some (.string ⟨#[]⟩))) : TDOK P Γ t .str := by
 obtain ⟨i, hi, e1⟩ := info_of h2
 injection e1 with e1 e2
 exact ⟨h1, i, hi, e1, e2⟩

theorem tdOk_bool {t : Nat} (h1 : P.underlying t = some .bool) (h2 : (P.info? t).map (fun i => (i.size, i.zero)) = some (1, some (.bool false))) : TDOK P Γ t .bool := by
 obtain ⟨i, hi, e1⟩ := info_of h2
 injection e1 with e1 e2
 exact ⟨h1, i, hi, e1, e2⟩


def EsOK (P : Program) : List (Ent Γ) → Prop
 | [] => True
 | e :: r => EntOK P e ∧ EsOK P r

theorem EsOK.all : ∀ {l : List (Ent Γ)}, EsOK P l → ∀ e ∈ l, EntOK P e
 | [], _, _, h => by cases h
 | e :: r, h, x, hx => by
  rcases List.mem_cons.1 hx with rfl | hx
  ·exact h.1
  ·exact EsOK.all h.2 x hx

section
variable {R : Type}

def goAt (l : List (Step Γ R)) (i k : Nat) (st : St Γ) : Option R :=
 match nth l i with
 | some s => s.go k st
 | none => none

def PnsOK (m : Nat) (l : List (Step Γ R)) : List (Pn Γ R) → Nat → Prop
 | [], _ => True
 | p :: ps, i => ((∀ x, p.g 0 x = none) ∧ ∀ k x, p.g (k + 1) x = goAt l i k (encSt m p.sh x)) ∧ PnsOK m l ps (i + 1)

theorem nth_of_getElem? {α : Type 1} : ∀ {l : List α} {i : Nat} {x : α}, l[i]? = some x → nth l i = some x
 | [], _, _, h => by simp at h
 | y :: l, 0, x, h => by simpa [nth] using h
 | y :: l, i + 1, x, h => by simp only [nth]; exact nth_of_getElem? (by simpa using h)

theorem PnsOK.get {m : Nat} {l : List (Step Γ R)} : ∀ {ps : List (Pn Γ R)} {i j : Nat} {p : Pn Γ R}, PnsOK m l ps i → ps[j]? = some p → (∀ x, p.g 0 x = none) ∧ ∀ k x, p.g (k + 1) x = goAt l (i + j) k (encSt m p.sh x)
 | [], _, _, _, _, h => by simp at h
 | q :: ps, i, 0, p, h, hj => by
  simp at hj
  subst hj
  exact h.1
 | q :: ps, i, j + 1, p, h, hj => by
  have := PnsOK.get h.2 (j := j) (p := p) (by simpa using hj)
  rwa [show i + 1 + j = i + (j + 1) by omega] at this

theorem steps_of {m : Nat} {l : List (Step Γ R)} {ps : List (Pn Γ R)} (h : l.map (fun s => s.p) = ps) (h2 : PnsOK m l ps 0) : StepsOK m l := by
 intro s hs
 obtain ⟨i, hi⟩ := List.mem_iff_getElem?.1 hs
 have hp : ps[i]? = some s.p := by rw [← h, List.getElem?_map, hi]; rfl
 obtain ⟨h3, h4⟩ := h2.get hp
 refine ⟨h3, fun k x => ?_⟩
 rw [h4 k x]
 simp only [goAt, Nat.zero_add, nth_of_getElem? hi]

end

def stepsOf (fn : Func) (E : Nat → List (Ent Γ)) (rc : RC) (Ps : List (Pn Γ (PT Γ rc.ls))) : List (Step Γ (PT Γ rc.ls)) :=
 match fn.body with
 | some c => steps fn.ntmps E Ps c 0 (finK fn.results.toList rc)
 | none => []

def sideB (e : Ent Γ) (fn : Func) : Bool :=
 (fn.body.isSome.and (!(fn.name == "runtime.NumGoroutine"))).and ((e.res.ok.and (resForm e.res fn.results.size)).and (Nat.ble e.args.length fn.ntmps))

theorem ent_ok (m k : Nat) (C : CtxOK P Γ) (E : Nat → List (Ent Γ)) (hE : ∀ k, EsOK P (E k)) {e : Ent Γ} {fn : Func} (hf : P.funcs[e.f]? = some fn) (hc : sideB e fn = true) (Ps : List (Pn Γ (PT Γ e.res.ls))) {ps : List (Pn Γ (PT Γ e.res.ls))}
  (hp : (stepsOf fn E e.res Ps).map (fun s => s.p) = ps) (hS : PnsOK m (stepsOf fn E e.res Ps) ps 0) (hfn : ∀ x, e.fn x = run fn E e.args e.res Ps k x) : EntOK P e := by
 simp only [sideB, Bool.and_eq_true] at hc
 obtain ⟨⟨hb, hn⟩, ⟨h1, h2⟩, h3⟩ := hc
 obtain ⟨c, hbc⟩ := Option.isSome_iff_exists.1 hb
 refine entOK (m := m) (k := k) C (fun k => (hE k).all) hf hbc (by simpa using hn) h1 h2 (Nat.le_of_ble_eq_true h3) (Ps := Ps) ?_ ?_
 ·have := steps_of hp hS
  simpa only [stepsOf, hbc] using this
 ·intro x
  rw [hfn x]
  simp only [run, hbc]

theorem EntOK.weaken {e : Ent Γ} (h : EntOK P e) (fn' : PT Γ (e.args.flatMap VC.ls) → Option (PT Γ e.res.ls)) (hw : ∀ x y, fn' x = some y → e.fn x = some y) : EntOK P ⟨e.f, e.args, e.res, fn'⟩ :=
 ⟨h.res, h.fn, fun S w avs vals cs x y h1 h2 h3 h4 => h.calls S w avs vals cs x y h1 h2 (hw x y h3) h4⟩


def cellV : Cell Γ → Value
 | .v x => x
 | _ => undef

def flatCell : Cell Γ → Bool
 | .v _ => true
 | _ => false

def avVal : AV Γ → Value
 | .f (.c x) => cellV x
 | .f (.agg cs) => .agg (cs.map cellV).toArray
 | _ => undef

def flatAV : AV Γ → Bool
 | .f (.c x) => flatCell x
 | .f (.agg cs) => cs.all flatCell
 | _ => false

def vcAVs (vcs : List VC) (ls : List LC) (x : PT Γ ls) : List (AV Γ) := argAVs vcs (encLeaves (fun _ => .ro) 0 ls x)
def vcVals (vcs : List VC) (ls : List LC) (x : PT Γ ls) : List Value := (vcAVs vcs ls x).map avVal

theorem cells_flat {base : Nat} {S : Nat → Nat → Prop} {μ : Mp} {w : World} : ∀ {cs : List (Cell Γ)} {vs : List Value}, cs.all flatCell = true → CellsRep base S μ w cs vs → vs = cs.map cellV
 | [], [], _, _ => rfl
 | c :: cs, v :: vs, h, hr => by
  simp only [List.all_cons, Bool.and_eq_true] at h
  cases c with
  | v x => rw [cells_flat h.2 hr.2, show v = x from hr.1]; rfl
  | _ => cases h.1
 | [], _ :: _, _, h => h.elim
 | _ :: _, [], _, h => h.elim

theorem flat_cells {base : Nat} {S : Nat → Nat → Prop} {μ : Mp} {w : World} : ∀ {cs : List (Cell Γ)}, cs.all flatCell = true → CellsRep base S μ w cs (cs.map cellV)
 | [], _ => trivial
 | c :: cs, h => by
  simp only [List.all_cons, Bool.and_eq_true] at h
  cases c with
  | v x => exact ⟨rfl, flat_cells h.2⟩
  | _ => cases h.1

theorem avs_flat {base : Nat} {S : Nat → Nat → Prop} {μ : Mp} {w : World} : ∀ {avs : List (AV Γ)} {ys : List Value}, avs.all flatAV = true → AVsRep base S μ w avs ys → ys = avs.map avVal
 | [], [], _, _ => rfl
 | a :: as, y :: ys, h, hr => by
  simp only [List.all_cons, Bool.and_eq_true] at h
  rw [avs_flat h.2 hr.2]
  cases a with
  | f x =>
   cases x with
   | c x =>
    cases x with
    | v x => rw [show y = x from hr.1]; rfl
    | _ => cases h.1
   | agg cs =>
    obtain ⟨vs, rfl, hc⟩ := hr.1
    rw [cells_flat h.1 hc]; rfl
  | _ => cases h.1
 | [], _ :: _, _, h => h.elim
 | _ :: _, [], _, h => h.elim

theorem flat_avs {base : Nat} {S : Nat → Nat → Prop} {μ : Mp} {w : World} : ∀ {avs : List (AV Γ)}, avs.all flatAV = true → AVsRep base S μ w avs (avs.map avVal)
 | [], _ => trivial
 | a :: as, h => by
  simp only [List.all_cons, Bool.and_eq_true] at h
  refine ⟨?_, flat_avs h.2⟩
  cases a with
  | f x =>
   cases x with
   | c x =>
    cases x with
    | v x => rfl
    | _ => cases h.1
   | agg cs => exact ⟨_, rfl, flat_cells h.1⟩
  | _ => cases h.1

theorem vals_of {base : Nat} {S : Nat → Nat → Prop} {μ : Mp} {w : World} {vcs : List VC} {ls : List LC} {avs : List (AV Γ)} {ys : List Value} {cs : List (Cell Γ)} {x : PT Γ ls} (hf : (vcAVs vcs ls x).all flatAV = true) (h1 : argCells vcs avs = some cs) (h2 : decLeaves ls cs = some x) (h4 : AVsRep base S μ w avs ys) : ys = vcVals vcs ls x := by
 obtain ⟨vs, g1, g2, g3, g4⟩ := args_reenc (base := base) (S := S) (μ := μ) (fun b oo h => h) vcs avs ys cs h1 h4
 have hnew : CellsRep base S μ w (encLeaves (fun _ => Own.ro) 0 ls x) vs :=
  leaves_rep (fun b oo hs hst => ⟨hst, hs⟩) _ _ _ x 0 h2 g1 (fun _ _ _ _ _ _ _ _ _ _ _ => trivial) (fun _ _ => trivial)
 exact avs_flat hf (g4 _ hnew)

theorem EntOK.flat {e : Ent Γ} (h : EntOK P e) (x : PT Γ (e.args.flatMap VC.ls)) (y : PT Γ e.res.ls) (hfn : e.fn x = some y) (ha : (vcAVs e.args _ x).all flatAV = true) (hc : argCells e.args (vcAVs e.args _ x) = some (encLeaves (fun _ => .ro) 0 _ x)) (hd : decLeaves _ (encLeaves (Γ := Γ) (fun _ => .ro) 0 _ x) = some x)
  (hr : (vcAVs e.res.vcs _ y).all flatAV = true) (w : World) : Calls P e.f (vcVals e.args _ x).toArray w fun en w' => en = .returned (resVal e.res (vcVals e.res.vcs _ y)) ∧ Below w.heap.size w w' := by
 refine (h.calls (fun _ _ => True) w _ _ _ x y hc hd hfn (flat_avs ha)).mono fun en w' hh => ?_
 obtain ⟨v, rfl, hb, μ, avs, ys, cs, _, r2, r3, _, r5, rfl⟩ := hh
 rw [vals_of hr r3 r5 r2]
 exact ⟨rfl, hb⟩

theorem entOK_hand {e : Ent Γ} {fn : Func} (hf : P.funcs[e.f]? = some fn) (hc : sideB e fn = true) (ha : ∀ x : PT Γ (e.args.flatMap VC.ls), (vcAVs e.args _ x).all flatAV = true)
  (hr : ∀ y : PT Γ e.res.ls, (vcAVs e.res.vcs _ y).all flatAV = true ∧ argCells e.res.vcs (vcAVs e.res.vcs _ y) = some (encLeaves (fun _ => .ro) 0 _ y) ∧ toksOK e.res.ls (encLeaves (Γ := Γ) (fun _ => .ro) 0 _ y) [] = true ∧ decLeaves _ (encLeaves (Γ := Γ) (fun _ => .ro) 0 _ y) = some y)
  (h : ∀ x y, e.fn x = some y → ∀ w, Calls P e.f (vcVals e.args _ x).toArray w fun en w' => en = .returned (resVal e.res (vcVals e.res.vcs _ y)) ∧ Below w.heap.size w w') : EntOK P e := by
 simp only [sideB, Bool.and_eq_true] at hc
 obtain ⟨⟨hb, hn⟩, ⟨h1, h2⟩, h3⟩ := hc
 refine ⟨h1, ⟨fn, hf, by simpa using hn, by cases hx : fn.body with | none => rw [hx] at hb; cases hb | some c => rfl⟩, fun S w avs vals cs x y g1 g2 g3 g4 => ?_⟩
 rw [vals_of (ha x) g1 g2 g4]
 refine (h x y g3 w).mono fun en w' hh => ?_
 obtain ⟨rfl, hb⟩ := hh
 obtain ⟨r1, r2, r3, r4⟩ := hr y
 exact ⟨_, rfl, hb, μ0, _, _, _, { ρinj := fun s s' g h => by simp [μ0] at h, ρnew := fun s g h => by simp [μ0] at h, τnew := fun d j g u h => by simp [μ0] at h, τinj := fun d j d' j' g u u' h => by simp [μ0] at h }, flat_avs r1, r2, r3, r4, rfl⟩

end

end Go.Refl
