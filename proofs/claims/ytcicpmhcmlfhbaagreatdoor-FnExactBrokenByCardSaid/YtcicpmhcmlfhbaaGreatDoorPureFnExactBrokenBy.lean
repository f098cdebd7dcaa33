/- The law FnExactBrokenBy, plainly: for every sign and row of constraints the program's and the reference's functions return the same rows and bools. -/
import Derived.Test.YtcicpmhcmlfhbaaGreatDoorWalkFnExactBrokenBy
import Derived.Test.YtcicpmhcmlfhbaaGreatDoorPAx7
import Derived.Test.YtcicpmhcmlfhbaaGreatDoorPAx5
import Derived.Test.YtcicpmhcmlfhbaaGreatDoorPAx6
import Derived.Test.YtcicpmhcmlfhbaaGreatDoorQSigns
namespace Go.Proofs.YtcicpmhcmlfhbaaGreatDoor.PA
open Go.RowKit Go.Proofs.YtcicpmhcmlfhbaaGreatDoorW.PrintWords Go.Proofs.YtcicpmhcmlfhbaaGreatDoorW.PrintLast Go.Proofs.YtcicpmhcmlfhbaaGreatDoorW.PrintMore
set_option linter.unusedVariables false
set_option linter.unusedSimpArgs false
theorem Ev.yesC {α : Type} {c : Prop} [Decidable c] {A B : Nat → Option α} {r : α} (h : c) (h1 : Ev A r) : Ev (fun k => if c then A k else B k) r := Ev.congr (fun k => if_pos h) h1
theorem Ev.noC {α : Type} {c : Prop} [Decidable c] {A B : Nat → Option α} {r : α} (h : ¬ c) (h1 : Ev B r) : Ev (fun k => if c then A k else B k) r := Ev.congr (fun k => if_neg h) h1
abbrev CC := S112
abbrev CL := S114
theorem rdC (l : List CC) (i : Nat) (h : i < l.length) : rd_T112 l (i : Int) = l[i] := by
  unfold rd_T112; rw [List.getD_eq_getElem?_getD]; simp [h]
theorem rdCL (l : List CL) (i : Nat) (h : i < l.length) : rd_T114 l (i : Int) = l[i] := by
  unfold rd_T114; rw [List.getD_eq_getElem?_getD]; simp [h]
/-- The law's constraints as the program's. -/
def tcC (x : CL) : CC := ⟨x.f0, x.f1⟩
theorem toC_from (l : List CL) (hl : l.length ≤ 1048576) : ∀ (d j : Nat) (x : List CC), l.length - j = d → j ≤ l.length → x.length = l.length → (∀ i, i < j → x[i]? = (l.map tcC)[i]?) → Ev (fun k => laws_toConstraintS.l0 k l x (j : Int)) (l.map tcC) := by
  intro d
  induction d with
  | zero =>
    intro j x hd hj hx h
    obtain rfl : j = l.length := by omega
    have e : x = l.map tcC := by
      apply List.ext_getElem?
      intro i
      by_cases hi : i < l.length
      · exact h i hi
      · rw [List.getElem?_eq_none (by omega), List.getElem?_eq_none (by simp; omega)]
    rw [← e]
    refine Ev.step (f := fun _ => some x) (fun k => ?_) (Ev.now _)
    simp only [laws_toConstraintS.l0]
    rw [if_neg (by omega)]
  | succ d ih =>
    intro j x hd hj hx h
    have hlt : j < l.length := by omega
    refine Ev.step (fun k => ?_) (ih (j + 1) (x.set j (tcC l[j])) (by omega) (by omega) (by rw [List.length_set]; exact hx) (fun i hi => by
      by_cases e : i = j
      · subst e; rw [List.getElem?_set_self (by omega)]; simp [hlt]
      · rw [List.getElem?_set_ne (by omega)]; exact h i (by omega)))
    simp only [laws_toConstraintS.l0, laws_toConstraint.f, Option.bind_some]
    rw [if_pos (by omega), if_pos (by omega), if_pos (by omega), if_pos (by omega), if_pos (by omega), rdCL l j hlt, mk64 (by omega) (by omega), Int.toNat_natCast]
    rfl
theorem toC_ev (l : List CL) (hl : l.length ≤ 1048576) : Ev (fun k => laws_toConstraintS.f k l) (l.map tcC) := by
  unfold laws_toConstraintS.f
  have h := toC_from l hl _ 0 (List.replicate ((l.length : Int) : Int).toNat z112) rfl (Nat.zero_le _) (by rw [List.length_replicate]; omega) (fun i hi => absurd hi (by omega))
  exact Ev.congr (fun k => by rw [if_pos (by omega), if_pos (by omega)]; rfl) h
theorem eqC_from (x : List CC) (hx : x.length ≤ 1048576) : ∀ (d j : Nat), x.length - j = d → j ≤ x.length → Ev (fun k => laws_eqConstraintS.l0 k x x (j : Int)) true := by
  intro d
  induction d with
  | zero =>
    intro j hd hj
    refine Ev.step (f := fun _ => some true) (fun k => ?_) (Ev.now _)
    simp only [laws_eqConstraintS.l0]
    rw [if_neg (by omega)]
  | succ d ih =>
    intro j hd hj
    refine Ev.step (fun k => ?_) (ih (j + 1) (by omega) (by omega))
    simp only [laws_eqConstraintS.l0, laws_eqConstraint.f, if_true, Option.bind_some]
    rw [if_pos (by omega), if_pos (by omega), if_pos (by omega), if_pos (by omega), if_pos (by omega), mk64 (by omega) (by omega)]
    rfl
theorem eqC_ev (x : List CC) (hx : x.length ≤ 1048576) : Ev (fun k => laws_eqConstraintS.f k x x) true := by
  unfold laws_eqConstraintS.f
  simp only [if_true]
  exact eqC_from x hx _ 0 rfl (Nat.zero_le _)
theorem markC_from : ∀ (d j : Nat) (x : List CC), x.length ≤ 1048576 → x.length - j = d → j ≤ x.length → ∃ y, Ev (fun k => laws_markConstraintS.l0 k x (2 * (j : Int) + 1) (j : Int)) (2 * (x.length : Int) + 1, y) := by
  intro d
  induction d with
  | zero =>
    intro j x hx hd hj
    obtain rfl : j = x.length := by omega
    refine ⟨x, Ev.step (f := fun _ => some (2 * (x.length : Int) + 1, x)) (fun k => ?_) (Ev.now _)⟩
    simp only [laws_markConstraintS.l0]
    rw [if_neg (by omega)]
  | succ d ih =>
    intro j x hx hd hj
    obtain ⟨y, hy⟩ := ih (j + 1) ((x.set j ⟨2 * (j : Int) + 1, (rd_T112 x (j : Int)).f1⟩).set j ⟨(rd_T112 (x.set j ⟨2 * (j : Int) + 1, (rd_T112 x (j : Int)).f1⟩) (j : Int)).f0, wrap64 (2 * (j : Int) + 1 + 1)⟩) (by simp only [List.length_set]; exact hx) (by simp only [List.length_set]; omega) (by simp only [List.length_set]; omega)
    simp only [List.length_set] at hy
    refine ⟨y, Ev.step (fun k => ?_) hy⟩
    simp only [laws_markConstraintS.l0, Option.bind_some, List.length_set, Int.toNat_natCast]
    rw [if_pos (by omega), if_pos (by omega), if_pos (by omega), if_pos (by omega), if_pos (by omega), mk64 (x := (j : Int) + 1) (by omega) (by omega), show wrap64 (wrap64 (2 * (j : Int) + 1 + 1) + 1) = 2 * ((j + 1 : Nat) : Int) + 1 by rw [mk64 (x := 2 * (j : Int) + 1 + 1) (by omega) (by omega), mk64 (by omega) (by omega)]; omega]
    rfl
theorem markC_ev (x : List CC) (hx : x.length ≤ 1048576) : ∃ y, Ev (fun k => laws_markConstraintS.f k x 1) (2 * (x.length : Int) + 1, y) := by
  unfold laws_markConstraintS.f
  exact markC_from _ 0 x hx rfl (Nat.zero_le _)
/-- Are all constraints, and not too many? -/
def caV (l : List CC) : Bool := (l.all fun x => kcOK x.f0 x.f1) && decide ((l.length : Int) ≤ 10)
theorem ruAll_from (l : List CC) (hl : l.length ≤ 1048576) : ∀ (d j : Nat), l.length - j = d → j ≤ l.length → Ev (fun k => spec_ruAll.l0 k l l (l.length : Int) (j : Int)) (((l.drop j).all fun x => kcOK x.f0 x.f1) && decide ((l.length : Int) ≤ 10)) := by
  intro d
  induction d with
  | zero =>
    intro j hd hj
    rw [List.drop_eq_nil_of_le (by omega)]
    refine Ev.step (f := fun _ => some _) (fun k => ?_) (Ev.now _)
    simp only [spec_ruAll.l0, List.all_nil, Bool.true_and]
    rw [if_neg (by omega)]
  | succ d ih =>
    intro j hd hj
    have hlt : j < l.length := by omega
    rw [List.drop_eq_getElem_cons hlt, List.all_cons]
    cases hk : kcOK l[j].f0 l[j].f1 with
    | false =>
      simp only [Bool.false_and]
      refine Ev.step (f := fun _ => some false) (fun k => ?_) (Ev.now _)
      simp only [spec_ruAll.l0]
      rw [if_pos (by omega), if_pos (by omega), if_pos (by omega), rdC l j hlt, ru_good, Option.bind_some, hk, if_neg (by decide)]
    | true =>
      simp only [Bool.true_and]
      refine Ev.step (fun k => ?_) (ih (j + 1) (by omega) (by omega))
      simp only [spec_ruAll.l0]
      rw [if_pos (by omega), if_pos (by omega), if_pos (by omega), rdC l j hlt, ru_good, Option.bind_some, hk, if_pos rfl, mk64 (by omega) (by omega)]
      rfl
theorem ruAll_ev (l : List CC) (hl : l.length ≤ 1048576) : Ev (fun k => spec_ruAll.f k l) (caV l) := by
  unfold spec_ruAll.f caV
  have := ruAll_from l hl _ 0 rfl (Nat.zero_le _)
  rwa [List.drop_zero] at this
theorem ac_from (l : List CC) (hl : l.length ≤ 1048576) : ∀ (d j : Nat), l.length - j = d → j ≤ l.length → ∃ v, Ev (fun k => ac2.l0 k l (l.length : Int) (j : Int)) v ∧ (!decide (v ≥ 0)) = (l.drop j).all fun x => kcOK x.f0 x.f1 := by
  intro d
  induction d with
  | zero =>
    intro j hd hj
    rw [List.drop_eq_nil_of_le (by omega)]
    refine ⟨-1, Ev.step (f := fun _ => some (-1)) (fun k => ?_) (Ev.now _), by simp⟩
    simp only [ac2.l0]
    rw [if_neg (by omega)]
  | succ d ih =>
    intro j hd hj
    have hlt : j < l.length := by omega
    rw [List.drop_eq_getElem_cons hlt, List.all_cons]
    have e : ∀ k, ac1.f k l[j].f0 l[j].f1 = some (!kcOK l[j].f0 l[j].f1) := fun k => rfl
    cases hk : kcOK l[j].f0 l[j].f1 with
    | false =>
      refine ⟨(j : Int), Ev.step (f := fun _ => some (j : Int)) (fun k => ?_) (Ev.now _), by simp⟩
      simp only [ac2.l0]
      rw [if_pos (by omega), if_pos (by omega), if_pos (by omega), rdC l j hlt, e, Option.bind_some, hk, if_pos (by decide)]
    | true =>
      obtain ⟨v, hv, hv2⟩ := ih (j + 1) (by omega) (by omega)
      refine ⟨v, Ev.step (fun k => ?_) hv, by rw [hv2]; rfl⟩
      simp only [ac2.l0]
      rw [if_pos (by omega), if_pos (by omega), if_pos (by omega), rdC l j hlt, e, Option.bind_some, hk, if_neg (by decide), mk64 (by omega) (by omega)]
      rfl
theorem areC_ev (l : List CC) (hl : l.length ≤ 1048576) : Ev (fun k => impl_areConstraints.f k l) (caV l) := by
  unfold impl_areConstraints.f caV
  by_cases h : (l.length : Int) ≤ 10
  · simp only [if_pos h, decide_eq_true h, Bool.and_true]
    unfold ac4.f ac3.f ac2.f
    obtain ⟨v, hv, hv2⟩ := ac_from l hl _ 0 rfl (Nat.zero_le _)
    rw [List.drop_zero] at hv2
    rw [← hv2]
    exact Ev.bind (Ev.bind (Ev.bind hv (Ev.now _)) (Ev.now _)) (Ev.now _)
  · simp only [if_neg h, decide_eq_false h, Bool.and_false]
    exact Ev.now _
/-- The places of those that F does not hold of. -/
def brk (F : CC → Bool) : List CC → Nat → List Int
  | [], _ => []
  | x :: r, j => if F x = true then brk F r (j + 1) else (j : Int) :: brk F r (j + 1)
theorem brk_len (F : CC → Bool) : ∀ (l : List CC) (j : Nat), (brk F l j).length ≤ l.length
  | [], _ => Nat.le_refl _
  | x :: r, j => by
    have := brk_len F r (j + 1)
    rw [brk]
    split
    · rw [List.length_cons]; omega
    · rw [List.length_cons, List.length_cons]; omega
section
variable (t i m r l : Int) (s : Bool) (p f g d : Int) (c : Bool) (b : ByteArray) (n : Int) (w : Bool) (t' i' m' r' l' : Int) (s' : Bool) (p' f' g' d' : Int) (c' : Bool) (b' : ByteArray) (n' : Int)
def kpV (x : CC) : Bool := kcV t i m r l s g b n w t' i' m' r' l' s' g' b' n' x.f0 x.f1
theorem spec_brk_from (h : sgOK t i m r l s p f g d c b n w t' i' m' r' l' s' p' f' g' d' c' b' n' = true) (L : List CC) (hl : L.length ≤ 1048576) : ∀ (e j : Nat) (acc : List Int), L.length - j = e → j ≤ L.length → acc.length ≤ j →
    Ev (fun k => spec_ruBroken.l0 k acc L (L.length : Int) (j : Int) t i m r l s p f g d c b n w t' i' m' r' l' s' p' f' g' d' c' b' n') (acc ++ brk (kpV t i m r l s g b n w t' i' m' r' l' s' g' b' n') (L.drop j) j) := by
  intro e
  induction e with
  | zero =>
    intro j acc he hj ha
    rw [List.drop_eq_nil_of_le (by omega), brk, List.append_nil]
    refine Ev.step (f := fun _ => some acc) (fun k => ?_) (Ev.now _)
    simp only [spec_ruBroken.l0]
    rw [if_neg (by omega)]
  | succ e ih =>
    intro j acc he hj ha
    have hlt : j < L.length := by omega
    rw [List.drop_eq_getElem_cons hlt, brk]
    have hw : wrap64 ((j : Int) + 1) = ((j + 1 : Nat) : Int) := by rw [mk64 (by omega) (by omega)]; omega
    have hkp := spec_keeps t i m r l s p f g d c b n w t' i' m' r' l' s' p' f' g' d' c' b' n' h L[j].f0 L[j].f1
    refine Ev.shift ?_
    simp only [spec_ruBroken.l0]
    refine Ev.yesC (by omega) (Ev.yesC (by omega) (Ev.yesC (by omega) ?_))
    simp only [rdC L j hlt]
    refine Ev.bind hkp ?_
    by_cases hk : kpV t i m r l s g b n w t' i' m' r' l' s' g' b' n' L[j] = true
    · rw [if_pos hk]
      refine Ev.yesC hk ?_
      rw [hw]
      exact ih (j + 1) acc (by omega) (by omega) (by omega)
    · rw [if_neg hk]
      refine Ev.noC hk (Ev.yesC (by omega) ?_)
      rw [hw]
      have := ih (j + 1) (acc ++ [(j : Int)]) (by omega) (by omega) (by simp; omega)
      rw [List.append_assoc] at this
      exact this
theorem spec_brk_ev (h : sgOK t i m r l s p f g d c b n w t' i' m' r' l' s' p' f' g' d' c' b' n' = true) (L : List CC) (hl : L.length ≤ 1048576) :
    Ev (fun k => spec_ruBroken.f k t i m r l s p f g d c b n w t' i' m' r' l' s' p' f' g' d' c' b' n' L) (brk (kpV t i m r l s g b n w t' i' m' r' l' s' g' b' n') L 0) := by
  unfold spec_ruBroken.f
  have := spec_brk_from t i m r l s p f g d c b n w t' i' m' r' l' s' p' f' g' d' c' b' n' h L hl _ 0 [] rfl (Nat.zero_le _) (Nat.le_refl _)
  rw [List.drop_zero, List.nil_append] at this
  exact this
theorem impl_brk_from (h : sgOK t i m r l s p f g d c b n w t' i' m' r' l' s' p' f' g' d' c' b' n' = true) (L : List CC) (hl : L.length ≤ 1048576) : ∀ (e j : Nat) (acc : List Int), L.length - j = e → j ≤ L.length → acc.length ≤ j →
    Ev (fun k => bb2.l0 k L (L.length : Int) (j : Int) acc t i m r l s p f g d c b n w t' i' m' r' l' s' p' f' g' d' c' b' n') (acc ++ brk (kpV t i m r l s g b n w t' i' m' r' l' s' g' b' n') (L.drop j) j) := by
  intro e
  induction e with
  | zero =>
    intro j acc he hj ha
    rw [List.drop_eq_nil_of_le (by omega), brk, List.append_nil]
    refine Ev.step (f := fun _ => some acc) (fun k => ?_) (Ev.now _)
    simp only [bb2.l0]
    rw [if_neg (by omega)]
  | succ e ih =>
    intro j acc he hj ha
    have hlt : j < L.length := by omega
    rw [List.drop_eq_getElem_cons hlt, brk]
    have hw : wrap64 ((j : Int) + 1) = ((j + 1 : Nat) : Int) := by rw [mk64 (by omega) (by omega)]; omega
    have hkp := impl_keeps t i m r l s p f g d c b n w t' i' m' r' l' s' p' f' g' d' c' b' n' h L[j].f0 L[j].f1
    refine Ev.shift ?_
    simp only [bb2.l0]
    refine Ev.yesC (by omega) (Ev.yesC (by omega) (Ev.yesC (by omega) ?_))
    simp only [rdC L j hlt, bb1.f, hkp, Option.bind_some]
    by_cases hk : kpV t i m r l s g b n w t' i' m' r' l' s' g' b' n' L[j] = true
    · rw [if_pos hk]
      have hk' : (!kcV t i m r l s g b n w t' i' m' r' l' s' g' b' n' L[j].f0 L[j].f1) = false := by rw [show kcV t i m r l s g b n w t' i' m' r' l' s' g' b' n' L[j].f0 L[j].f1 = true from hk]; rfl
      rw [hk', hw]
      exact Ev.noC (by decide) (ih (j + 1) acc (by omega) (by omega) (by omega))
    · rw [if_neg hk]
      have hk' : (!kcV t i m r l s g b n w t' i' m' r' l' s' g' b' n' L[j].f0 L[j].f1) = true := by rw [show kcV t i m r l s g b n w t' i' m' r' l' s' g' b' n' L[j].f0 L[j].f1 = false from Bool.eq_false_iff.mpr hk]; rfl
      rw [hk', hw]
      refine Ev.yesC rfl (Ev.yesC (by first | omega | exact Refl.appLen_of (by simp; omega)) ?_)
      have := ih (j + 1) (acc ++ [(j : Int)]) (by omega) (by omega) (by simp; omega)
      rw [List.append_assoc] at this
      exact this
theorem impl_brk_ev (h : sgOK t i m r l s p f g d c b n w t' i' m' r' l' s' p' f' g' d' c' b' n' = true) (L : List CC) (hl : L.length ≤ 1048576) :
    Ev (fun k => bb2.f k L t i m r l s p f g d c b n w t' i' m' r' l' s' p' f' g' d' c' b' n') (brk (kpV t i m r l s g b n w t' i' m' r' l' s' g' b' n') L 0) := by
  unfold bb2.f
  have := impl_brk_from t i m r l s p f g d c b n w t' i' m' r' l' s' p' f' g' d' c' b' n' h L hl _ 0 [] rfl (Nat.zero_le _) (Nat.le_refl _)
  rw [List.drop_zero, List.nil_append] at this
  exact this
/-- What both functions return. -/
def bbV (L : List CC) : List Int × Bool := if sgOK t i m r l s p f g d c b n w t' i' m' r' l' s' p' f' g' d' c' b' n' = true then (if caV L = true then (brk (kpV t i m r l s g b n w t' i' m' r' l' s' g' b' n') L 0, true) else ([], false)) else ([], false)
theorem spec_bb_ev (hb : b.size ≤ 1048576) (hb' : b'.size ≤ 1048576) (L : List CC) (hl : L.length ≤ 1048576) : Ev (fun k => spec_BrokenBy.f k t i m r l s p f g d c b n w t' i' m' r' l' s' p' f' g' d' c' b' n' L) (bbV t i m r l s p f g d c b n w t' i' m' r' l' s' p' f' g' d' c' b' n' L) := by
  unfold spec_BrokenBy.f bbV
  refine Ev.bind (spec_good_ev t i m r l s p f g d c b n w t' i' m' r' l' s' p' f' g' d' c' b' n' hb hb') ?_
  by_cases h : sgOK t i m r l s p f g d c b n w t' i' m' r' l' s' p' f' g' d' c' b' n' = true
  · rw [if_pos h]
    refine Ev.yesC h (Ev.bind (ruAll_ev L hl) ?_)
    by_cases hk : caV L = true
    · rw [if_pos hk]
      exact Ev.yesC hk (Ev.bind (spec_brk_ev t i m r l s p f g d c b n w t' i' m' r' l' s' p' f' g' d' c' b' n' h L hl) (Ev.now _))
    · rw [if_neg hk]
      exact Ev.noC hk (Ev.now _)
  · rw [if_neg h]
    exact Ev.noC h (Ev.now _)
theorem impl_bb_ev (hb : b.size ≤ 1048576) (hb' : b'.size ≤ 1048576) (L : List CC) (hl : L.length ≤ 1048576) : Ev (fun k => impl_BrokenBy.f k t i m r l s p f g d c b n w t' i' m' r' l' s' p' f' g' d' c' b' n' L) (bbV t i m r l s p f g d c b n w t' i' m' r' l' s' p' f' g' d' c' b' n' L) := by
  unfold impl_BrokenBy.f bbV
  refine Ev.bind (impl_sign_ev t i m r l s p f g d c b n w t' i' m' r' l' s' p' f' g' d' c' b' n' hb hb') ?_
  by_cases h : sgOK t i m r l s p f g d c b n w t' i' m' r' l' s' p' f' g' d' c' b' n' = true
  · rw [if_pos h]
    refine Ev.yesC h (Ev.bind (areC_ev L hl) ?_)
    by_cases hk : caV L = true
    · rw [if_pos hk]
      exact Ev.yesC hk (Ev.bind (impl_brk_ev t i m r l s p f g d c b n w t' i' m' r' l' s' p' f' g' d' c' b' n' h L hl) (Ev.now _))
    · rw [if_neg hk]
      exact Ev.noC hk (Ev.now _)
  · rw [if_neg h]
    exact Ev.noC h (Ev.now _)
theorem bbV_len (L : List CC) : (bbV t i m r l s p f g d c b n w t' i' m' r' l' s' p' f' g' d' c' b' n' L).1.length ≤ L.length := by
  unfold bbV
  split
  · split
    · exact brk_len _ _ _
    · exact Nat.zero_le _
  · exact Nat.zero_le _
end
end Go.Proofs.YtcicpmhcmlfhbaaGreatDoor.PA
namespace Go.Proofs.YtcicpmhcmlfhbaaGreatDoor.Pure
open Go.RowKit Go.Proofs.YtcicpmhcmlfhbaaGreatDoor.PA Go.Proofs.YtcicpmhcmlfhbaaGreatDoorW.PrintWords Go.Proofs.YtcicpmhcmlfhbaaGreatDoorW.PrintLast Go.Proofs.YtcicpmhcmlfhbaaGreatDoorW.PrintMore
theorem FnExactBrokenBy : laws_FnExactBrokenBy.Pure := by
  rintro ⟨⟨⟨t, i, m, r, l, s⟩, ⟨p, f⟩, ⟨g, d, c⟩, ⟨b, n⟩⟩, w, ⟨⟨t', i', m', r', l', s'⟩, ⟨p', f'⟩, ⟨g', d', c'⟩, ⟨b', n'⟩⟩⟩ L hV ⟨hL, _⟩
  have hb : b.size ≤ 9223372036854775807 := hV.1.2.2.2.1
  have hb' : b'.size ≤ 9223372036854775807 := hV.2.2.2.2.2.1
  refine Ev.rounds (g := fun q => laws_FnExactBrokenBy.f q t i m r l s p f g d c b n w t' i' m' r' l' s' p' f' g' d' c' b' n' L) (r := true) ?_
  unfold laws_FnExactBrokenBy.f
  obtain ⟨v, e, hv⟩ := sz_sign t i m r l s p f g d c b n w t' i' m' r' l' s' p' f' g' d' c' b' n' 1048576 (by omega) (by omega) hb hb'
  simp only [e, Option.bind_some, to_sign]
  rcases hv with hv | ⟨h0, hv1, h1, h2⟩
  · exact Ev.yesC hv (Ev.now _)
  refine Ev.noC (by omega) ?_
  have hz : wrap64 (v - (L.length : Int)) = v - (L.length : Int) := mk64 (by omega) (by omega)
  simp only [laws_szConstraintS.f, hz]
  by_cases hl : v - (L.length : Int) < 0
  · simp only [if_pos hl, Option.bind_some]
    exact Ev.yesC (by decide) (Ev.now _)
  simp only [if_neg hl, Option.bind_some]
  have hl1 : L.length ≤ 1048576 := by omega
  have hl2 : (L.map tcC).length ≤ 1048576 := by rw [List.length_map]; exact hl1
  have hz2 := bbV_len t i m r l s p f g d c b n w t' i' m' r' l' s' p' f' g' d' c' b' n' (L.map tcC)
  refine Ev.bind (toC_ev L hl1) (Ev.bind (spec_bb_ev t i m r l s p f g d c b n w t' i' m' r' l' s' p' f' g' d' c' b' n' h1 h2 _ hl2) (Ev.bind (toC_ev L hl1) (Ev.bind (impl_bb_ev t i m r l s p f g d c b n w t' i' m' r' l' s' p' f' g' d' c' b' n' h1 h2 _ hl2) ?_)))
  have IB := impl_bb_ev t i m r l s p f g d c b n w t' i' m' r' l' s' p' f' g' d' c' b' n' h1 h2 _ hl2
  generalize bbV t i m r l s p f g d c b n w t' i' m' r' l' s' p' f' g' d' c' b' n' (L.map tcC) = V at hz2 IB ⊢
  have hz3 : V.1.length ≤ 1048576 := by omega
  refine Ev.bind (eqI_ev V.1 hz3) (Ev.yesC rfl ?_)
  have hne : (!(V.2 == V.2)) = false := by simp
  rw [hne]
  refine Ev.shift ?_
  simp only [laws_FnExactBrokenBy.j0]
  refine Ev.noC (by decide) (Ev.bind (toC_ev L hl1) (Ev.bind (eqC_ev _ hl2) (Ev.yesC rfl ?_)))
  obtain ⟨y, hy⟩ := markC_ev (L.map tcC) hl2
  refine Ev.bind hy (Ev.noC (by simp only []; omega) (Ev.bind (eqI_ev V.1 hz3) (Ev.yesC rfl ?_)))
  rw [hne]
  refine Ev.shift ?_
  simp only [laws_FnExactBrokenBy.j1, to_sign, Option.bind_some]
  refine Ev.noC (by decide) (Ev.bind (markI_ev V.1 hz3) (Ev.bind (heldI_ev V.1.length hz3) (Ev.noC (by omega) (Ev.yesC rfl (Ev.bind (toC_ev L hl1) (Ev.bind IB (Ev.bind (eqI_ev V.1 hz3) (Ev.yesC rfl ?_))))))))
  rw [hne]
  refine Ev.shift ?_
  simp only [laws_FnExactBrokenBy.j2]
  exact Ev.noC (by decide) (Ev.bind (heldI_ev V.1.length hz3) (Ev.noC (by omega) (Ev.yesC rfl (Ev.now _))))
end Go.Proofs.YtcicpmhcmlfhbaaGreatDoor.Pure
