/- A pure interpreter of the code, and that the machine does what it tells (a text of this session). -/
import Derived.Test.YtcicpmhcmlfhbaaGreatDoorReflB
set_option autoImplicit false
set_option linter.unusedVariables false
set_option linter.unusedSimpArgs false
namespace Go.Refl
open Go.RowKit

section
variable {Γ : Ctx} {P : Program} {base : Nat} {S : Nat → Nat → Prop} {w0 : W0}

theorem decInt_inv {k : IntKind} {c : Cell Γ} {x : Int} (h : decInt k c = some x) : c = .v (.int k x) := by
 unfold decInt at h
 split at h
 ·split at h
  ·cases h; subst_vars; rfl
  ·cases h
 ·cases h
theorem decBool_inv {c : Cell Γ} {x : Bool} (h : decBool c = some x) {μ : Mp} {w : World} {u : Value} (hc : CellRep base S μ w c u) : u = .bool x := by
 unfold decBool at h
 split at h
 ·cases h; exact hc
 ·cases h; exact hc
 ·cases h; exact hc
 ·cases h
theorem decStr_inv {c : Cell Γ} {x : ByteArray} (h : decStr c = some x) : c = .v (.string x) := by
 unfold decStr at h
 split at h
 ·cases h; rfl
 ·cases h
theorem decRw_inv {e : Nat} {own : Bool} {c : Cell Γ} {x : List (Γ.kd e).α} (h : decRw e own c = some x) : (∃ o, c = .row e x o ∧ (own = true → o.mine = true)) ∨ (c = .v (.slice none 0 0) ∧ x = []) ∨ own = false ∧ ∃ d j, c = .own e x d j := by
 unfold decRw at h
 split at h
 ·rename_i e' xs o
  cases hb : (!own).or o.mine with
  | false => simp [hb] at h
  | true =>
   simp only [hb, cond_true] at h
   split at h
   ·rename_i he
    subst he
    cases h
    refine .inl ⟨o, rfl, fun ho => ?_⟩
    subst ho
    simpa using hb
   ·cases h
 ·rename_i e' xs d j
  cases own with
  | true => cases h
  | false =>
   simp only [cond_false] at h
   split at h
   ·rename_i he; subst he; cases h; exact .inr (.inr ⟨rfl, d, j, rfl⟩)
   ·cases h
 ·cases h; exact .inr (.inl ⟨rfl, rfl⟩)
 ·cases h

theorem decOwn_inv {e : Nat} {c : Cell Γ} {x : List (Γ.kd e).α} (h : decOwn e c = some x) : (∃ d j, c = .own e x d j) ∨ (x = [] ∧ (c = .row e [] .nil ∨ c = .v (.slice none 0 0))) := by
 unfold decOwn at h
 split at h
 ·rename_i e' xs d j
  split at h
  ·rename_i he; subst he; cases h; exact .inl ⟨d, j, rfl⟩
  ·cases h
 ·rename_i e'
  split at h
  ·rename_i he; subst he; cases h; exact .inr ⟨rfl, .inl rfl⟩
  ·cases h
 ·cases h; exact .inr ⟨rfl, .inr rfl⟩
 ·cases h

theorem dec_own0 (e : Nat) (y : List (Γ.kd e).α) (a b : Nat) : decOwn (Γ := Γ) e (Cell.own e y a b) = some y := by
 unfold decOwn
 exact dif_pos rfl

def tokOf (μ : Mp) : Cell Γ → Option (Nat × Nat)
 | .own _ _ a b => μ.τ a b
 | _ => none

theorem decFn_inv {f : Nat} {c : Cell Γ} {x : Unit} (h : decFn f c = some x) : c = .fn f := by
 unfold decFn at h
 split at h
 ·rename_i g
  cases hb : f.beq g with
  | true => rw [Nat.eq_of_beq_eq_true hb]
  | false => rw [hb] at h; cases h
 ·cases h

theorem dec_one {l : LC} {cs : List (Cell Γ)} {y : PT1 Γ l []} (h : decL l [] cs = some y) : ∃ c, cs = [c] ∧ decLeaf l c = some y := by
 match cs, h with
 | [c], h => exact ⟨c, rfl, h⟩
 | [], h => exact absurd (show (none : Option (PT1 Γ l [])) = some y from h) (fun e => nomatch e)
 | _ :: _ :: _, h => exact absurd (show (none : Option (PT1 Γ l [])) = some y from h) (fun e => nomatch e)

theorem dec_two {l b : LC} {r : List LC} {cs : List (Cell Γ)} {y : PT1 Γ l (b :: r)} (h : decL l (b :: r) cs = some y) : ∃ c cs', cs = c :: cs' ∧ decLeaf l c = some y.1 ∧ decL b r cs' = some y.2 := by
 match cs, h with
 | [], h => exact absurd (show (none : Option (PT1 Γ l (b :: r))) = some y from h) (fun e => nomatch e)
 | c :: cs, h =>
  have h' : ((decLeaf l c).bind fun x => (decL b r cs).bind fun z => some (x, z)) = some y := h
  obtain ⟨x, hx, h1⟩ := Option.bind_eq_some_iff.1 h'
  obtain ⟨z, hz, h2⟩ := Option.bind_eq_some_iff.1 h1
  have := Option.some.inj h2
  subst this
  exact ⟨c, cs, rfl, hx, hz⟩

theorem dec_nil {cs : List (Cell Γ)} {y : PT Γ []} (h : decLeaves [] cs = some y) : cs = [] := by
 simp only [decLeaves] at h
 split at h
 ·rfl
 ·cases h

def Moves (base' : Nat) (S' : Nat → Nat → Prop) (μc : Mp) (base : Nat) (S : Nat → Nat → Prop) (μ : Mp) : Prop :=
 ∀ b oo, (b < base' → S' b oo) → Stable base' μc b oo → Stable base μ b oo ∧ (b < base → S b oo)

theorem leaf_rep {base' : Nat} {S' : Nat → Nat → Prop} {μ μc : Mp} {w' : World} {l : LC} {c : Cell Γ} {x : l.T Γ} {u : Value} {o : Own} (hx : decLeaf l c = some x) (hc : CellRep base' S' μc w' c u) (hst : l.noRd = false → Moves base' S' μc base S μ)
  (ho : ∀ e, l = .row e true → ∀ (xs : List (Γ.kd e).α) (o' : Own), c = .row e xs o' → o'.mine = true → ∀ (A : Option Addr) (n cc : Nat), OwnRep base' μc w' e (Γ.kd e).K.sz A n cc o' → OwnRep base μ w' e (Γ.kd e).K.sz A n cc o)
  (h0 : ∀ e, l = .row e true → OwnRep base μ w' e (Γ.kd e).K.sz none 0 0 o) (hf : ∀ (e : Nat) (xs : List (Γ.kd e).α) (a b : Nat), c = .own e xs a b → ∀ g, μc.τ a b = some (g, 0) → ∀ e' q, l = .row e' q → ∀ off, Stable base μ g off ∧ (g < base → S g off))
  (hg : ∀ e, l = .own e → ∀ d j, o = .tok d j → μ.τ d j = tokOf μc c) :
  CellRep base S μ w' (encLeaf o l x) u := by
 cases l with
 | int k => obtain rfl := decInt_inv hx; exact hc
 | bool => exact decBool_inv hx hc
 | str => obtain rfl := decStr_inv hx; exact hc
 | fn f => obtain rfl := decFn_inv hx; exact hc
 | own e =>
  cases o with
  | tok d j =>
   rcases decOwn_inv hx with ⟨a, b, rfl⟩ | ⟨e1, rfl | rfl⟩
   ·rcases hc with h | ⟨g, cur, q1, q2⟩
    ·exact .inl h
    ·exact .inr ⟨g, cur, (hg e rfl d j rfl).trans q1, q2⟩
   ·obtain ⟨A, cc, rfl, _, _, _, h4⟩ := hc
    obtain ⟨rfl, _, rfl⟩ := h4
    exact .inl ⟨e1, rfl⟩
   ·exact .inl ⟨e1, hc⟩
  | _ => trivial
 | row e own =>
  have hst := hst rfl
  rcases decRw_inv hx with ⟨o', rfl, hm⟩ | ⟨rfl, e2⟩ | ⟨rfl, a, b, rfl⟩
  ·obtain ⟨A, cc, rfl, h1, h2, h3, h4⟩ := hc
   refine ⟨A, cc, rfl, h1, h2, fun hn => ?_, ?_⟩
   ·obtain ⟨b, off, rfl, hh⟩ := h3 hn
    refine ⟨b, off, rfl, fun j v hj => ?_⟩
    obtain ⟨f1, f2, f3⟩ := hh j v hj
    exact ⟨f1, hst b _ f3 f2⟩
   ·cases own with
    | false => trivial
    | true => exact ho e rfl x o' rfl (hm rfl) A _ cc h4
  ·cases hc
   have : x = [] := e2
   subst this
   refine ⟨none, 0, rfl, Nat.le_refl _, Nat.zero_le _, fun hn => (by simp at hn), ?_⟩
   cases own with
   | false => trivial
   | true => exact h0 e rfl
  ·rcases hc with ⟨e1, rfl⟩ | ⟨g, cur, q1, q2, ⟨rest, q3⟩, q4, cc, q5, rfl, _⟩
   ·have : x = [] := e1
    subst this
    exact ⟨none, 0, rfl, Nat.le_refl _, Nat.zero_le _, fun hn => (by simp at hn), trivial⟩
   refine ⟨_, _, rfl, q5, q4, fun hn => ⟨g, 0, rfl, fun j v hj => ⟨?_, ?_⟩⟩, trivial⟩
   ·rw [cell_of_row w' g _ cur e (0, 0) q2, Nat.zero_add, ← Array.getElem?_toList, q3]
    rw [List.getElem?_append_left (List.getElem?_eq_some_iff.1 hj).1]; exact hj
   ·exact hf e x a b rfl g q1 e _ rfl _

theorem ls_rep {base' : Nat} {S' : Nat → Nat → Prop} {μ μc : Mp} {w' : World} {o : Nat → Own} (h0 : ∀ (j e : Nat), OwnRep base μ w' e (Γ.kd e).K.sz none 0 0 (o j)) :
  ∀ (r : List LC) (l : LC) (cs : List (Cell Γ)) (vs : List Value) (y : PT1 Γ l r) (k : Nat), ((l :: r).all LC.noRd = false → Moves base' S' μc base S μ) → decL l r cs = some y → CellsRep base' S' μc w' cs vs →
  (∀ (j e : Nat) (xs : List (Γ.kd e).α) (o' : Own), (l :: r)[j]? = some (.row e true) → cs[j]? = some (.row e xs o') → o'.mine = true → ∀ (A : Option Addr) (n cc : Nat), OwnRep base' μc w' e (Γ.kd e).K.sz A n cc o' → OwnRep base μ w' e (Γ.kd e).K.sz A n cc (o (k + j))) →
  (∀ (j e : Nat) (xs : List (Γ.kd e).α) (a b : Nat), cs[j]? = some (.own e xs a b) → ∀ g, μc.τ a b = some (g, 0) → ∀ e' q, (l :: r)[j]? = some (.row e' q) → ∀ off, Stable base μ g off ∧ (g < base → S g off)) →
  (∀ (j e : Nat) (c : Cell Γ), (l :: r)[j]? = some (.own e) → cs[j]? = some c → ∀ d j', o (k + j) = .tok d j' → μ.τ d j' = tokOf μc c) →
  CellsRep base S μ w' (encL o k l r y) vs
 | [], l, cs, vs, y, k, hst, h, hc, ho, hf, hg => by
  obtain ⟨c, rfl, hl⟩ := dec_one h
  cases vs with
  | nil => exact hc.elim
  | cons v vs =>
   cases vs with
   | cons _ _ => exact hc.2.elim
   | nil => exact ⟨leaf_rep hl hc.1 (fun e => hst (by simp [e])) (fun e he xs o' he' hm => ho 0 e xs o' (by simp [he]) (by simp [he']) hm) (fun e _ => h0 k e) (fun e xs a b e1 g hgg e' q e2 => hf 0 e xs a b (by simp [e1]) g hgg e' q (by simp [e2])) (fun e e2 => hg 0 e c (by simp [e2]) rfl), trivial⟩
 | b :: r, l, cs, vs, y, k, hst, h, hc, ho, hf, hg => by
  obtain ⟨c, cs', rfl, hl, hr⟩ := dec_two h
  cases vs with
  | nil => exact hc.elim
  | cons v vs =>
   refine ⟨leaf_rep hl hc.1 (fun e => hst (by simp [e])) (fun e he xs o' he' hm => ho 0 e xs o' (by simp [he]) (by simp [he']) hm) (fun e _ => h0 k e) (fun e xs a b e1 g hgg e' q e2 => hf 0 e xs a b (by simp [e1]) g hgg e' q (by simp [e2])) (fun e e2 => hg 0 e c (by simp [e2]) rfl), ls_rep h0 r b cs' vs y.2 (k + 1) (fun e => hst (by rw [List.all_cons, e, Bool.and_false])) hr hc.2 (fun j e xs o' e1 e2 hm => ?_) (fun j e xs a b' e1 g hgg e' q e2 => hf (j + 1) e xs a b' (by simpa using e1) g hgg e' q (by simpa using e2)) (fun j e c' e1 e2 => ?_)⟩
   ·have := ho (j + 1) e xs o' (by simpa using e1) (by simpa using e2) hm
    rwa [show k + 1 + j = k + (j + 1) by omega]
   ·have := hg (j + 1) e c' (by simpa using e1) (by simpa using e2)
    rwa [show k + 1 + j = k + (j + 1) by omega]

theorem leaves_rep {base' : Nat} {S' : Nat → Nat → Prop} {μ μc : Mp} {w' : World} {o : Nat → Own} (ls : List LC) (hst : ls.all LC.noRd = false → Moves base' S' μc base S μ) (cs : List (Cell Γ)) (vs : List Value) (y : PT Γ ls) (k : Nat) (h : decLeaves ls cs = some y) (hc : CellsRep base' S' μc w' cs vs)
  (ho : ∀ (j e : Nat) (xs : List (Γ.kd e).α) (o' : Own), ls[j]? = some (.row e true) → cs[j]? = some (.row e xs o') → o'.mine = true → ∀ (A : Option Addr) (n cc : Nat), OwnRep base' μc w' e (Γ.kd e).K.sz A n cc o' → OwnRep base μ w' e (Γ.kd e).K.sz A n cc (o (k + j)))
  (h0 : ∀ (j e : Nat), OwnRep base μ w' e (Γ.kd e).K.sz none 0 0 (o j)) (hf : ∀ (j e : Nat) (xs : List (Γ.kd e).α) (a b : Nat), cs[j]? = some (.own e xs a b) → ∀ g, μc.τ a b = some (g, 0) → ∀ e' q, ls[j]? = some (.row e' q) → ∀ off, Stable base μ g off ∧ (g < base → S g off))
  (hg : ∀ (j e : Nat) (c : Cell Γ), ls[j]? = some (.own e) → cs[j]? = some c → ∀ d j', o (k + j) = .tok d j' → μ.τ d j' = tokOf μc c) : CellsRep base S μ w' (encLeaves o k ls y) vs := by
 cases ls with
 | nil =>
  obtain rfl := dec_nil h
  cases vs with
  | nil => trivial
  | cons _ _ => exact hc.elim
 | cons l r => exact ls_rep h0 r l cs vs y k hst h hc ho hf hg

theorem encL_length (o : Nat → Own) : ∀ (r : List LC) (l : LC) (k : Nat) (y : PT1 Γ l r), (encL o k l r y).length = r.length + 1
 | [], _, _, _ => rfl
 | b :: r, l, k, y => congrArg (· + 1) (encL_length o r b (k + 1) y.2)

theorem encLeaves_length (o : Nat → Own) (ls : List LC) (k : Nat) (y : PT Γ ls) : (encLeaves o k ls y).length = ls.length := by
 cases ls with
 | nil => rfl
 | cons l r => exact encL_length o r l k y

theorem cons_eq {α : Type 1} {a b : α} {l m : List α} (h1 : a = b) (h2 : l = m) : a :: l = b :: m := by rw [h1, h2]

theorem encL_take {o o' : Nat → Own} : ∀ (r : List LC) (l : LC) (k : Nat) (y : PT1 Γ l r) (n : Nat), (∀ (j : Nat) (x : LC) (z : x.T Γ), j < n → (l :: r)[j]? = some x → encLeaf (o (k + j)) x z = encLeaf (o' (k + j)) x z) → (encL o k l r y).take n = (encL o' k l r y).take n
 | r, l, k, y, 0, _ => by simp
 | [], l, k, y, n + 1, h => by
  simp only [encL, List.take_succ_cons]
  exact cons_eq (h 0 l y (by omega) rfl) rfl
 | b :: r, l, k, y, n + 1, h => by
  simp only [encL, List.take_succ_cons]
  exact cons_eq (h 0 l y.1 (by omega) rfl) (encL_take r b (k + 1) y.2 n fun j x z hj hx => by
   have := h (j + 1) x z (by omega) (by simpa using hx)
   rwa [show k + 1 + j = k + (j + 1) by omega])

theorem encLeaves_take {o o' : Nat → Own} (ls : List LC) (k : Nat) (y : PT Γ ls) (n : Nat) (h : ∀ (j : Nat) (x : LC) (z : x.T Γ), j < n → ls[j]? = some x → encLeaf (o (k + j)) x z = encLeaf (o' (k + j)) x z) : (encLeaves o k ls y).take n = (encLeaves o' k ls y).take n := by
 cases ls with
 | nil => rfl
 | cons l r => exact encL_take r l k y n h

theorem encLeaf_no {o o' : Own} {l : LC} (h : l.isRow = false) (z : l.T Γ) : encLeaf o l z = encLeaf o' l z := by
 cases l with
 | row e own => cases own with
  | false => rfl
  | true => cases h
 | own e => cases h
 | _ => rfl

theorem encLeaves_no {o o' : Nat → Own} (ls : List LC) (k : Nat) (y : PT Γ ls) (hh : ∀ x ∈ ls, x.isRow = false) : encLeaves o k ls y = encLeaves o' k ls y := by
 have h1 := encLeaves_take (o := o) (o' := o') ls k y ls.length fun j x z _ hx => encLeaf_no (hh x (List.mem_of_getElem? hx)) z
 rwa [List.take_of_length_le (by rw [encLeaves_length]; exact Nat.le_refl _), List.take_of_length_le (by rw [encLeaves_length]; exact Nat.le_refl _)] at h1

theorem encL_own (d : Nat) : ∀ (r : List LC) (l : LC) (k : Nat) (y : PT1 Γ l r) (cs : List (Cell Γ)), decL l r cs = some y → ∀ (j e : Nat) (zs : List (Γ.kd e).α) (a b : Nat), (l :: r)[j]? = some (.own e) → cs[j]? = some (.own e zs a b) → (encL (Own.tok d) k l r y)[j]? = some (.own e zs d (k + j))
 | [], l, k, y, cs, h, j, e, zs, a, b, h1, h2 => by
  obtain ⟨c, rfl, hl⟩ := dec_one h
  cases j with
  | succ j => simp at h1
  | zero =>
   simp at h1 h2
   subst h1 h2
   have hl : decOwn e (.own e zs a b : Cell Γ) = some y := hl
   obtain rfl := Option.some.inj ((dec_own0 e zs a b).symm.trans hl)
   rfl
 | b' :: r, l, k, y, cs, h, j, e, zs, a, b, h1, h2 => by
  obtain ⟨c, cs', rfl, hl, hr⟩ := dec_two h
  cases j with
  | succ j =>
   have := encL_own d r b' (k + 1) y.2 cs' hr j e zs a b (by simpa using h1) (by simpa using h2)
   simp only [encL, List.getElem?_cons_succ]
   rwa [show k + (j + 1) = k + 1 + j by omega]
  | zero =>
   simp at h1 h2
   subst h1 h2
   have hl : decOwn e (.own e zs a b : Cell Γ) = some y.1 := hl
   have hl := Option.some.inj ((dec_own0 e zs a b).symm.trans hl)
   rw [hl]
   rfl

theorem encLeaves_own {d : Nat} (ls : List LC) (k : Nat) (y : PT Γ ls) (cs : List (Cell Γ)) (h : decLeaves ls cs = some y) (j e : Nat) (zs : List (Γ.kd e).α) (a b : Nat) (h1 : ls[j]? = some (.own e)) (h2 : cs[j]? = some (.own e zs a b)) : (encLeaves (Own.tok d) k ls y)[j]? = some (.own e zs d (k + j)) := by
 cases ls with
 | nil => simp at h1
 | cons l r => exact encL_own d r l k y cs h j e zs a b h1 h2

theorem vcs_ls (rc : RC) : rc.vcs.flatMap VC.ls = rc.ls := by cases rc <;> simp [RC.vcs, RC.ls]

theorem res_shape {μ : Mp} {w : World} (rc : RC) (hok : rc.ok = true) (cs : List (Cell Γ)) (vs us : List Value) (hl : rc.ls.length ≤ cs.length) (hv : vs.length = rc.ls.length) (h : CellsRep base S μ w cs (vs ++ us)) : AVRep base S μ w (resOf rc cs) (resVal rc (valsOf rc.vcs vs)) := by
 rw [← valsOf_append rc.vcs vs us hok (by rw [vcs_ls]; exact hv)]
 cases rc with
 | one v =>
  cases v with
  | c l =>
   cases cs with
   | nil => simp [RC.ls, VC.ls] at hl
   | cons c cs =>
    cases vs with
    | nil => simp [RC.ls, VC.ls] at hv
    | cons v vs => exact h.1
  | agg ls => exact ⟨(vs ++ us).take ls.length, rfl, h.take _⟩
  | clo f caps => simp [RC.ok, RC.vcs, VC.plain] at hok
  | ref ls => simp [RC.ok, RC.vcs, VC.plain] at hok
  | wr k T ls => simp [RC.ok, RC.vcs, VC.plain] at hok
  | mrow e => simp [RC.ok, RC.vcs, VC.plain] at hok
 | tup l => exact ⟨valsOf l (vs ++ us), rfl, fvs_rep l _ _ hok h (by simpa [RC.ls] using hl)⟩

def pF (d : Nat) (fr : Bool) : Nat → Nat → Bool := fun d' j => bif fr then isTok (some d) d' j else false

theorem cell_of_block {w w' : World} {b o : Nat} (h : w'.heap[b]? = w.heap[b]?) : w'.cell? ⟨b, o, none⟩ = w.cell? ⟨b, o, none⟩ := by
 simp only [World.cell?, h]

theorem fvsOf_take : ∀ (vcs : List VC) (cs : List (Cell Γ)) (n : Nat), vcs.all VC.plain = true → (vcs.flatMap VC.ls).length ≤ n → fvsOf vcs (cs.take n) = fvsOf vcs cs
 | [], _, _, _, _ => rfl
 | v :: vcs, cs, n, hp, hl => by
  simp only [List.all_cons, Bool.and_eq_true] at hp
  rw [List.flatMap_cons, List.length_append] at hl
  cases v with
  | c l =>
   simp only [VC.ls, List.length_cons, List.length_nil] at hl
   have ih := fvsOf_take vcs (cs.drop 1) (n - 1) hp.2 (by omega)
   cases n with
   | zero => omega
   | succ n =>
    cases cs with
    | nil => simp [fvsOf]
    | cons c cs => simp only [fvsOf, VC.n, fvOf, List.take_succ_cons, List.drop_succ_cons, List.drop_zero] at ih ⊢; rw [show n + 1 - 1 = n by omega] at ih; rw [ih]
  | agg ls =>
   simp only [VC.ls] at hl
   have ih := fvsOf_take vcs (cs.drop ls.length) (n - ls.length) hp.2 (by omega)
   simp only [fvsOf, VC.n, fvOf]
   rw [List.take_take, Nat.min_eq_left (by omega), List.drop_take, ih]
  | _ => cases hp.1

theorem resOf_take (rc : RC) (cs : List (Cell Γ)) (n : Nat) (hok : rc.ok = true) (hl : rc.ls.length ≤ n) : resOf rc (cs.take n) = resOf rc cs := by
 have h1 := fvsOf_take rc.vcs cs n hok (by rw [vcs_ls]; exact hl)
 cases rc with
 | one v => simp only [RC.vcs, fvsOf, List.cons.injEq] at h1; simp only [resOf, h1.1]
 | tup vs => simp only [RC.vcs] at h1; simp only [resOf, h1]

theorem row_cells {base' : Nat} {S' : Nat → Nat → Prop} {μi μc : Mp} {w' : World} : ∀ {vs : List VC} {as : List (AV Γ)} {ys : List Value} {us : List (Cell Γ)}, RowOut base' S' μi μc w' vs as ys us →
  ∃ uys, CellsRep base' S' μc w' us uys ∧ us.length = (rowsOf vs).length ∧ ∀ (i : Nat) (c : Cell Γ), us[i]? = some c → ∃ e zs a b, c = .own e zs a b ∧ ((rowsOf vs).map LC.own)[i]? = some (.own e)
 | [], as, ys, us, h => by
  have h : us = [] := by cases as <;> cases ys <;> exact h
  subst h
  exact ⟨[], trivial, rfl, fun i c hi => by simp at hi⟩
 | .mrow e :: vs, as, ys, us, h => by
  unfold RowOut at h
  split at h
  ·rename_i q; cases q
  ·rename_i e' vs' e'' xs d j as' y ys' q1
   cases q1
   obtain ⟨zs, a, b, rest, rfl, h1, _, h3⟩ := h
   obtain ⟨uys, g1, g2, g3⟩ := row_cells h3
   refine ⟨y :: uys, ⟨h1, g1⟩, by simp [rowsOf, g2], fun i c hi => ?_⟩
   cases i with
   | zero => simp at hi; subst hi; exact ⟨e, zs, a, b, rfl, rfl⟩
   | succ i => obtain ⟨e', zs', a', b', k1, k2⟩ := g3 i c (by simpa using hi); exact ⟨e', zs', a', b', k1, by simpa [rowsOf] using k2⟩
  ·exact h.elim
  ·rename_i hno q1
   cases q1
   exact (hno _ rfl).elim
  ·exact h.elim
 | .c l :: vs, a :: as, y :: ys, us, h => row_cells (vs := vs) (as := as) (ys := ys) h
 | .agg l :: vs, a :: as, y :: ys, us, h => row_cells (vs := vs) (as := as) (ys := ys) h
 | .clo f l :: vs, a :: as, y :: ys, us, h => row_cells (vs := vs) (as := as) (ys := ys) h
 | .ref l :: vs, a :: as, y :: ys, us, h => row_cells (vs := vs) (as := as) (ys := ys) h
 | .wr k T l :: vs, a :: as, y :: ys, us, h => row_cells (vs := vs) (as := as) (ys := ys) h
 | .c l :: vs, [], ys, us, h => by cases ys <;> exact h.elim
 | .agg l :: vs, [], ys, us, h => by cases ys <;> exact h.elim
 | .clo f l :: vs, [], ys, us, h => by cases ys <;> exact h.elim
 | .ref l :: vs, [], ys, us, h => by cases ys <;> exact h.elim
 | .wr k T l :: vs, [], ys, us, h => by cases ys <;> exact h.elim
 | .c l :: vs, _ :: _, [], us, h => h.elim
 | .agg l :: vs, _ :: _, [], us, h => h.elim
 | .clo f l :: vs, _ :: _, [], us, h => h.elim
 | .ref l :: vs, _ :: _, [], us, h => h.elim
 | .wr k T l :: vs, _ :: _, [], us, h => h.elim

theorem Ext.mono {p p' : Nat → Nat → Bool} {q i : Nat → Bool} {μ μ' : Mp} {w w' : World} (h : Ext base p q i μ w μ' w') (hp : ∀ d j, p d j = true → p' d j = true) : Ext base p' q i μ w μ' w' :=
 have key : ∀ d j, p' d j = false → p d j = false := fun d j e => by
  cases hh : p d j with
  | false => rfl
  | true => rw [hp d j hh] at e; cases e
 ⟨h.size, h.cell, h.stab, h.box, h.hbox, fun d j v e => h.tok d j v (key d j e), fun d j g u e => h.htok d j g u (key d j e)⟩

def backL (rc : RC) (vs : List VC) : List LC := rc.ls ++ (mutsOf vs).flatMap fun x => x.2.2

theorem backL_ol (rc : RC) (vs : List VC) : rc.ls ++ outLs vs = backL rc vs ++ (rowsOf vs).map LC.own := by simp [backL, outLs]

def RowBack (base : Nat) (S : Nat → Nat → Prop) (μ : Mp) (w' : World) : List VC → List (AV Γ) → List Value → List (Cell Γ) → Prop
 | [], _, _, _ => True
 | .mrow _ :: vs, .f (.c (.own _ _ d j)) :: as, y :: ys, c :: cs => CellRep base S μ w' (retok d j c) y ∧ RowBack base S μ w' vs as ys cs
 | .mrow _ :: _, _, _, _ => False
 | _ :: vs, _ :: as, _ :: ys, cs => RowBack base S μ w' vs as ys cs
 | _, _, _, _ => False

theorem RowOut.cons {base : Nat} {S : Nat → Nat → Prop} {μi μc : Mp} {w' : World} {e : Nat} {vs : List VC} {as : List (AV Γ)} {ys : List Value} {us : List (Cell Γ)} (h : RowOut base S μi μc w' (.mrow e :: vs) as ys us) :
  ∃ e' xs d j as' y ys' zs a b rest, as = .f (.c (.own e' xs d j)) :: as' ∧ ys = y :: ys' ∧ us = .own e zs a b :: rest ∧ CellRep base S μc w' (.own e zs a b : Cell Γ) y ∧ CellRep base S μi w' (.own e zs d j : Cell Γ) y ∧ RowOut base S μi μc w' vs as' ys' rest := by
 unfold RowOut at h
 split at h
 ·rename_i q; cases q
 ·rename_i e0 vs' e'' xs d j as' y ys' q1
  cases q1
  obtain ⟨zs, a, b, rest, h0, h1, h2, h3⟩ := h
  exact ⟨_, _, _, _, _, _, _, zs, a, b, rest, rfl, rfl, h0, h1, h2, h3⟩
 ·exact h.elim
 ·rename_i hno q1
  cases q1
  exact (hno _ rfl).elim
 ·exact h.elim

theorem RowOut.skip {base : Nat} {S : Nat → Nat → Prop} {μi μc : Mp} {w' : World} {v : VC} {vs : List VC} {as : List (AV Γ)} {ys : List Value} {us : List (Cell Γ)} (hv : ∀ e, v ≠ .mrow e) (h : RowOut base S μi μc w' (v :: vs) as ys us) :
  ∃ a as' y ys', as = a :: as' ∧ ys = y :: ys' ∧ RowOut base S μi μc w' vs as' ys' us := by
 cases v with
 | mrow e => exact (hv e rfl).elim
 | _ =>
  cases as with
  | nil => cases ys <;> exact h.elim
  | cons a as =>
   cases ys with
   | nil => exact h.elim
   | cons y ys => exact ⟨a, as, y, ys, rfl, rfl, h⟩

theorem row_back {base' : Nat} {S' : Nat → Nat → Prop} {μi μc μ' : Mp} {w' : World} (hto : ∀ (e : Nat) (zs : List (Γ.kd e).α) (d j : Nat) (y : Value), CellRep base' S' μi w' (.own e zs d j : Cell Γ) y → CellRep base S μ' w' (.own e zs d j : Cell Γ) y) :
  ∀ (vs : List VC) {as : List (AV Γ)} {ys : List Value} {us cs2 : List (Cell Γ)}, RowOut base' S' μi μc w' vs as ys us → (∀ (i e : Nat) (zs : List (Γ.kd e).α) (a b : Nat), us[i]? = some (.own e zs a b) → ∃ p q, cs2[i]? = some (.own e zs p q)) → RowBack base S μ' w' vs as ys cs2
 | [], _, _, _, _, _, _ => trivial
 | v :: vs, as, ys, us, cs2, h, hc => by
  by_cases hv : ∃ e, v = .mrow e
  ·obtain ⟨e, rfl⟩ := hv
   obtain ⟨e', xs, d, j, as', y, ys', zs, a, b, rest, rfl, rfl, rfl, h1, h2, h3⟩ := h.cons
   obtain ⟨p, q, hp⟩ := hc 0 e zs a b rfl
   cases cs2 with
   | nil => simp at hp
   | cons c cs2 =>
    simp at hp
    subst hp
    exact ⟨hto e zs d j y h2, row_back hto vs h3 fun i e zs a b hi => by have := hc (i + 1) e zs a b (by simpa using hi); simpa using this⟩
  ·obtain ⟨a, as', y, ys', rfl, rfl, h1⟩ := h.skip fun e he => hv ⟨e, he⟩
   have := row_back hto vs h1 hc
   cases v with
   | mrow e => exact (hv ⟨e, rfl⟩).elim
   | _ => exact this

theorem res_back {fl : Bool} {w w' : World} {μ : Mp} {ks : List Nat} {l : List (Nat × Nat × Value)} {ins : List (AV Γ)} {vals : List Value} {rc : RC} {args : List VC} {y : PT Γ (rc.ls ++ outLs args)} {v : Value} (hok : rc.ok = true) (hm : MapsOK base μ w) (hle : base ≤ w.heap.size) (hB : Bel w.heap.size ⟨w, (μv μ ks l).ρ, handOf (μv μ ks l), fun _ => none⟩ w')
  (hfl : fl = true → (rc.ls ++ outLs args).all LC.noRd = true) (hkind : mutsOf args = [] ∨ rowsOf args = []) (hin : ∀ d j, handTok l d j = true → ∃ g, μ.τ d j = some (g, 0)) (hvals : ∀ d j g, handTok l d j = true → μ.τ d j = some (g, 0) → ∀ us μc, RowOut w.heap.size (viewS fl base S μ) (μv μ ks l) μc w' args ins vals us → ∃ (i e : Nat) (zs : List (Γ.kd e).α) (a b : Nat), us[i]? = some (.own e zs a b) ∧ μc.τ a b = some (g, 0))
  (h : ResOK Γ (viewS fl base S μ) (μv μ ks l) ks w w' rc args ins vals y v) (d : Nat) (hdst : ∀ d' j, handTok l d' j = true → d.beq d' = false) :
  ∃ μ', MapsOK base μ' w' ∧ Ext base (fun d' j => (pF d ((backL rc args).any LC.isRow) d' j).or (handTok l d' j)) no1 (hasKey ks) μ w μ' w' ∧ AVRep base S μ' w' (resOf rc (encLeaves (Own.tok d) 0 (rc.ls ++ outLs args) y)) v ∧
   OutBack base S μ' w' (mutsOf args) ks ((encLeaves (Own.tok d) 0 (rc.ls ++ outLs args) y).drop rc.ls.length) ∧ (mutsOf args = [] → RowBack base S μ' w' args ins vals ((encLeaves (Own.tok d) 0 (rc.ls ++ outLs args) y).drop rc.ls.length)) ∧ μ'.ρ = μ.ρ ∧ (∀ d' j, μ.τ d' j = none → μ'.τ d' j = none ∨ d' = d) ∧
   ∀ d' j g u, μ'.τ d' j = some (g, u) → w.heap.size ≤ g ∨ μ.τ d' j = some (g, u) := by
 obtain ⟨μc, avs, ys, cs, os, us, h1, htw, h2, h3, hout, hro, h4, h5, rfl⟩ := h
 obtain ⟨vs, e1, rfl, e3⟩ := args_cells rc.vcs avs ys cs hok h3 h2
 obtain ⟨ous, o1, o2, o3⟩ := out_cells (base := base) (S := S) hout
 obtain ⟨uys, r1, r2, r3⟩ := row_cells hro
 rw [vcs_ls] at e3
 have hvs : vs.length = rc.ls.length := by rw [← e1.length]; exact e3
 have ecs : (cs ++ os).length = (backL rc args).length := by simp only [backL, List.length_append, e3, o2]
 have hlen1 : rc.ls.length ≤ (backL rc args).length := by simp [backL]
 have e1 := e1.append (o1.append r1)
 have hol := backL_ol rc args
 have hget1 : ∀ (j : Nat), j < (backL rc args).length → (rc.ls ++ outLs args)[j]? = (backL rc args)[j]? := fun j hj => by rw [hol, List.getElem?_append_left hj]
 have hget2 : ∀ (j : Nat), (backL rc args).length ≤ j → (rc.ls ++ outLs args)[j]? = ((rowsOf args).map LC.own)[j - (backL rc args).length]? := fun j hj => by rw [hol, List.getElem?_append_right hj]
 have hrow1 : ∀ (j e : Nat) (q : Bool), (rc.ls ++ outLs args)[j]? = some (.row e q) → j < (backL rc args).length := fun j e q hj => by
  rcases Nat.lt_or_ge j (backL rc args).length with h | h
  ·exact h
  ·rw [hget2 j h, List.getElem?_map] at hj
   obtain ⟨z, _, hz⟩ := Option.map_eq_some_iff.1 hj
   cases hz
 generalize hcells : encLeaves (Γ := Γ) (Own.tok d) 0 (rc.ls ++ outLs args) y = cells at *
 have hclen : cells.length = (backL rc args).length + (rowsOf args).length := by rw [← hcells, encLeaves_length, hol, List.length_append, List.length_map]
 -- rows that come back
 have hrc2 : ∀ (i e : Nat) (zs : List (Γ.kd e).α) (a b : Nat), us[i]? = some (.own e zs a b) → ∃ p q, (cells.drop (backL rc args).length)[i]? = some (.own e zs p q) := fun i e zs a b hi => by
  obtain ⟨e', zs', a', b', k1, k2⟩ := r3 i _ hi
  cases k1
  refine ⟨d, 0 + ((backL rc args).length + i), ?_⟩
  rw [List.getElem?_drop, ← hcells]
  refine encLeaves_own _ 0 y _ h5 _ e zs a b ?_ ?_
  ·rw [hget2 _ (by omega), show (backL rc args).length + i - (backL rc args).length = i by omega]; exact k2
  ·rw [← List.append_assoc, List.getElem?_append_right (by omega), ecs, show (backL rc args).length + i - (backL rc args).length = i by omega]; exact hi
 -- blocks that stay
 have hblk : ∀ b, b < w.heap.size → (∀ s, μ.ρ s = some b → hasKey ks s = false) → (∀ d' j u, μ.τ d' j = some (b, u) → handTok l d' j = false) → w'.heap[b]? = w.heap[b]? := fun b hb hs ht => hB.block b hb (fun s e => by
  obtain ⟨k1, k2⟩ := μv_ρ (l := l) e
  have := hs s k2
  rw [hasKey_mem.2 k1] at this
  cases this) (fun ⟨d', j, u, e⟩ => by
  obtain ⟨k1, k2⟩ := μv_τ e
  rw [ht d' j u k2] at k1
  cases k1)
 have hcell : ∀ b o, b < w.heap.size → Stable base μ b o → w'.cell? ⟨b, o, none⟩ = w.cell? ⟨b, o, none⟩ := fun b o hb hst => cell_of_block (hblk b hb (fun s e => absurd e (hst.1 s)) fun d' j u e => by
  cases hh : handTok l d' j with
  | false => rfl
  | true =>
   obtain ⟨g, hg⟩ := hin d' j hh
   rw [e] at hg; cases hg
   have := hst.2 d' j 0 e
   omega)
 have hhb : ∀ s g, no1 s = false → hasKey ks s = false → μ.ρ s = some g → w'.heap[g]? = w.heap[g]? := fun s g _ hk hs => hblk g (hm.ρnew s g hs) (fun s' e => by rw [hm.ρinj s' s g e hs]; exact hk) fun d' j u e => absurd hs ((hm.τnew d' j g u e).2 s)
 have hht : ∀ d' j g u, handTok l d' j = false → μ.τ d' j = some (g, u) → w'.heap[g]? = w.heap[g]? := fun d' j g u hh e => hblk g (hm.τnew d' j g u e).1 (fun s e' => absurd e' ((hm.τnew d' j g u e).2 s)) fun d'' j' u' e' => by
  obtain ⟨rfl, rfl⟩ := hm.τinj _ _ _ _ _ _ _ e e'
  exact hh
 have hpf : ∀ d' j, (pF d ((backL rc args).any LC.isRow) d' j).or (handTok l d' j) = false → pF d ((backL rc args).any LC.isRow) d' j = false ∧ handTok l d' j = false := fun d' j e => by simpa using e
 have finish : ∀ (μ' : Mp) (o : Nat → Own), μ'.ρ = μ.ρ → (∀ d' j v, handTok l d' j = true → μ.τ d' j = some v → μ'.τ d' j = some v) → (encLeaves o 0 (rc.ls ++ outLs args) y).take (backL rc args).length = cells.take (backL rc args).length → CellsRep base S μ' w' (encLeaves o 0 (rc.ls ++ outLs args) y) (vs ++ (ous ++ uys)) →
   AVRep base S μ' w' (resOf rc cells) (resVal rc (valsOf rc.vcs vs)) ∧ OutBack base S μ' w' (mutsOf args) ks (cells.drop rc.ls.length) ∧ (mutsOf args = [] → RowBack base S μ' w' args ins vals (cells.drop rc.ls.length)) := fun μ' o hρ hτ hte hc => by
  have hov : (vs ++ ous).length = (backL rc args).length := by
   have := o1.length
   simp only [List.length_append] at ecs ⊢
   omega
  have ht := hc.take (backL rc args).length
  rw [hte, ← List.append_assoc, List.take_left' hov] at ht
  refine ⟨?_, ?_, fun hmt => ?_⟩
  ·rw [← resOf_take rc cells _ hok hlen1]
   exact res_shape rc hok _ vs ous (by rw [List.length_take]; omega) hvs ht
  ·rcases hkind with hk | hk
   ·rw [hk] at o3 ⊢
    have := o3 μ' [] (fun s g e => by rw [hρ]; exact (μv_ρ e).2) (by
     rw [hk] at o2
     have hl := o1.length
     cases ous with
     | nil => trivial
     | cons _ _ => simp at o2; subst o2; simp at hl)
    cases ks with
    | nil => trivial
    | cons _ _ => exact this.elim
   ·have hd := ht.drop rc.ls.length
    rw [List.drop_left' hvs] at hd
    have : cells.take (backL rc args).length = cells := List.take_of_length_le (by rw [hclen, hk]; simp)
    rw [this] at hd
    exact o3 μ' _ (fun s g e => by rw [hρ]; exact (μv_ρ e).2) hd
  ·refine row_back (fun e zs d' j yy hh => ?_) args hro fun i e zs a b hi => ?_
   ·rcases hh with hh | ⟨g, cur, q1, q2⟩
    ·exact .inl hh
    ·obtain ⟨k1, k2⟩ := μv_τ q1
     exact .inr ⟨g, cur, hτ d' j _ k1 k2, q2⟩
   ·have := hrc2 i e zs a b hi
    rwa [show (backL rc args).length = rc.ls.length by simp [backL, hmt]] at this
 have hmvs : ∀ μ' : Mp, μ'.ρ = μ.ρ → (∀ b d' j u, b < w.heap.size → μ'.τ d' j = some (b, u) → μ.τ d' j = some (b, u)) → (∀ b oo d' j u, w.heap.size ≤ b → Stable w.heap.size μc b oo → μ'.τ d' j = some (b, u) → oo < u) → (rc.ls ++ outLs args).all LC.noRd = false → Moves w.heap.size (viewS fl base S μ) μc base S μ' := by
  intro μ' hρ hτ hnew hnr b oo hs hst
  have hfalse : fl = false := by
   cases hh : fl with
   | false => rfl
   | true => rw [hfl hh] at hnr; cases hnr
  rcases Nat.lt_or_ge b w.heap.size with hb | hb
  ·obtain ⟨q1, g1, g2⟩ := hs hb hfalse
   exact ⟨⟨fun s e => g1 s (by rw [← hρ]; exact e), fun d' j u e => g2 d' j u (hτ b d' j u hb e)⟩, q1⟩
  ·exact ⟨⟨fun s e => by rw [hρ] at e; have := hm.ρnew s _ e; omega, fun d' j u e => hnew b oo d' j u hb hst e⟩, fun h => by omega⟩
 cases hr : (backL rc args).any LC.isRow with
 | false =>
  have hno : ∀ x ∈ backL rc args, x.isRow = false := fun x hx => by simpa using List.any_eq_false.1 hr x hx
  have hno1 : ∀ (j e : Nat), (rc.ls ++ outLs args)[j]? ≠ some (.row e true) := fun j e he => by
   rw [hget1 j (hrow1 j e true he)] at he
   have := hno _ (List.mem_of_getElem? he)
   cases this
  have hno2 : ∀ (j e e' : Nat) (xs : List (Γ.kd e').α) (a b : Nat), j < (backL rc args).length → (rc.ls ++ outLs args)[j]? ≠ some (.own e) := fun j e _ _ _ _ hj he => by
   rw [hget1 j hj] at he
   have := hno _ (List.mem_of_getElem? he)
   cases this
  obtain ⟨f1, f2, f3⟩ := finish μ (fun _ => Own.full) rfl (fun _ _ _ _ h => h) (by
    rw [← hcells]
    exact encLeaves_take _ 0 y _ fun j x z hj hx => encLeaf_no (hno x (List.mem_of_getElem? (by rw [← hget1 j hj]; exact hx))) z) (by
   refine leaves_rep (rc.ls ++ outLs args) (hmvs μ rfl (fun _ _ _ _ _ h => h) fun b oo d' j u hb _ e => by have := (hm.τnew d' j _ u e).1; omega) (cs ++ (os ++ us)) (vs ++ (ous ++ uys)) y 0 h5 e1 (fun j e xs o' he => absurd he (hno1 j e)) (fun _ _ => rfl) (fun j e xs a b hc g hg e' q hl off => ?_) (fun j e c _ _ d' j' eo => by cases eo)
   -- a row that was held alone goes back to be read
   have hj := hrow1 j e' q hl
   have hgn : w.heap.size ≤ g := by
    rcases htw a b g 0 hg with hh | ⟨d', j', u', hh⟩
    ·exact hh
    ·obtain ⟨k1, k2⟩ := μv_τ hh
     obtain ⟨g', hg'⟩ := hin d' j' k1
     rw [k2] at hg'; cases hg'
     obtain ⟨i, e2, zs, a2, b2, m1, m2⟩ := hvals d' j' g k1 k2 us μc hro
     obtain ⟨rfl, rfl⟩ := h1.τinj _ _ _ _ _ _ _ hg m2
     have t1 : TokAt (rc.ls ++ outLs args) (cs ++ (os ++ us)) j a b := ⟨_, _, hl, hc, .inr ⟨e, xs, rfl⟩⟩
     obtain ⟨e3', zs3, a3, b3, k3, k4⟩ := r3 i _ m1
     cases k3
     have t2 : TokAt (rc.ls ++ outLs args) (cs ++ (os ++ us)) ((backL rc args).length + i) a b := ⟨_, _, by rw [hget2 _ (by omega), show (backL rc args).length + i - (backL rc args).length = i by omega]; exact k4, by rw [← List.append_assoc, List.getElem?_append_right (by omega), ecs, show (backL rc args).length + i - (backL rc args).length = i by omega]; exact m1, .inr ⟨e2, zs, rfl⟩⟩
     have := toks_inj _ _ [] h4 _ _ _ _ t1 t2
     omega
   exact ⟨⟨fun s es => by have := hm.ρnew s _ es; omega, fun dd jj u eu => by have := (hm.τnew dd jj _ u eu).1; omega⟩, fun hlt => by omega⟩)
  exact ⟨μ, hm.of_size hB.size, ⟨hB.size, hcell, fun _ _ _ h => h, fun _ _ _ h => h, hhb, fun _ _ _ _ h => h, fun d' j g u hp => hht d' j g u (by simpa [pF] using hp)⟩, f1, f2, f3, rfl, fun _ _ h => .inl h, fun d' j g u h => .inr h⟩
 | true =>
  have hnew : ∀ j g u, newTok μc (backL rc args) (cs ++ (os ++ us)) j = some (g, u) → w.heap.size ≤ g ∧ g < w'.heap.size := fun j g u h => by
   obtain ⟨a, b, t1, ht⟩ := newTok_inv h
   refine ⟨?_, (h1.τnew a b g u ht).1⟩
   rcases htw a b g u ht with hh | ⟨d', j', u', hh⟩
   ·exact hh
   ·obtain ⟨k1, k2⟩ := μv_τ hh
    obtain ⟨g', hg'⟩ := hin d' j' k1
    rw [k2] at hg'; cases hg'
    obtain ⟨i, e2, zs, a2, b2, m1, m2⟩ := hvals d' j' g k1 k2 us μc hro
    obtain ⟨rfl, rfl⟩ := h1.τinj _ _ _ _ _ _ _ ht m2
    obtain ⟨lf, c, q1, q2, q3⟩ := t1
    have hj : j < (backL rc args).length := (List.getElem?_eq_some_iff.1 q1).1
    obtain ⟨e3', zs3, a3, b3, k3, k4⟩ := r3 i _ m1
    cases k3
    have t2 : TokAt (rc.ls ++ outLs args) (cs ++ (os ++ us)) ((backL rc args).length + i) a b := ⟨_, _, by rw [hget2 _ (by omega), show (backL rc args).length + i - (backL rc args).length = i by omega]; exact k4, by rw [← List.append_assoc, List.getElem?_append_right (by omega), ecs, show (backL rc args).length + i - (backL rc args).length = i by omega]; exact m1, .inr ⟨e2, zs, rfl⟩⟩
    have := toks_inj _ _ [] h4 _ _ _ _ ⟨lf, c, by rw [hget1 j hj]; exact q1, q2, q3⟩ t2
    omega
  have hcases : ∀ d' j g u, (backMp μ μc d (backL rc args) (cs ++ (os ++ us))).τ d' j = some (g, u) → (d' = d ∧ newTok μc (backL rc args) (cs ++ (os ++ us)) j = some (g, u)) ∨ (d.beq d' = false ∧ μ.τ d' j = some (g, u)) := fun d' j g u h => by
   simp only [backMp] at h
   cases hd : d.beq d' with
   | true => simp only [hd, cond_true] at h; exact .inl ⟨(Nat.eq_of_beq_eq_true hd).symm, h⟩
   | false => simp only [hd, cond_false] at h; exact .inr ⟨rfl, h⟩
  have hpf1 : ∀ d' j, pF d true d' j = false → d.beq d' = false := fun d' j h => h
  have hstnew : ∀ b oo d' j u, w.heap.size ≤ b → Stable w.heap.size μc b oo → (backMp μ μc d (backL rc args) (cs ++ (os ++ us))).τ d' j = some (b, u) → oo < u := fun b oo d' j u hb hst e => by
   rcases hcases d' j b u e with ⟨_, e⟩ | ⟨_, e⟩
   ·obtain ⟨a, b', _, ht⟩ := newTok_inv e
    exact hst.2 a b' u ht
   ·have := (hm.τnew d' j b u e).1; omega
  have hold : ∀ b d' j u, b < w.heap.size → (backMp μ μc d (backL rc args) (cs ++ (os ++ us))).τ d' j = some (b, u) → μ.τ d' j = some (b, u) := fun b d' j u hb e => by
   rcases hcases d' j b u e with ⟨_, e⟩ | ⟨_, e⟩
   ·have := (hnew j b u e).1; omega
   ·exact e
  let o : Nat → Own := fun j => if j < (backL rc args).length then Own.tok d j else .ro
  have ho1 : ∀ j, j < (backL rc args).length → o j = .tok d j := fun j hj => by simp only [o]; rw [if_pos hj]
  obtain ⟨f1, f2, f3⟩ := finish (backMp μ μc d (backL rc args) (cs ++ (os ++ us))) o rfl (fun d' j v hh e => by simp only [backMp, hdst d' j hh, cond_false]; exact e) (by
    rw [← hcells]
    exact encLeaves_take _ 0 y _ fun j x z hj hx => by rw [Nat.zero_add, ho1 j hj]) (by
   refine leaves_rep (rc.ls ++ outLs args) (hmvs (backMp μ μc d (backL rc args) (cs ++ (os ++ us))) rfl hold hstnew) (cs ++ (os ++ us)) (vs ++ (ous ++ uys)) y 0 h5 e1 (fun j e xs o' he hc hmine A n cc hown => ?_) (fun j e => ?_) (fun j e xs a b he g hg e' q hl off => ?_) (fun j e c hl hc d' j' eo => ?_)
   ·have hj := hrow1 j e true he
    rw [Nat.zero_add, ho1 j hj]
    cases o' with
    | ro => cases hmine
    | full => exact .inl hown
    | nil => exact .inl (hown.2.1.trans hown.2.2.symm)
    | tok a b =>
     rcases hown with hown | ⟨g, cur, f1, f2, f3, f4, f5, f6⟩
     ·exact .inl hown
     ·refine .inr ⟨g, cur, f1, by omega, ?_, f4, f5, f6⟩
      have e1 : d.beq d = true := Nat.beq_refl d
      rw [hget1 j hj] at he
      simp only [backMp, e1, cond_true, newTok, he, hc, f3]
   ·by_cases hj : j < (backL rc args).length
    ·rw [ho1 j hj]; exact .inl rfl
    ·simp only [o]; rw [if_neg hj]; trivial
   ·have hj := hrow1 j e' q hl
    have hgn : w.heap.size ≤ g := by
     rcases htw a b g 0 hg with hh | ⟨d', j', u', hh⟩
     ·exact hh
     ·obtain ⟨k1, k2⟩ := μv_τ hh
      obtain ⟨g', hg'⟩ := hin d' j' k1
      rw [k2] at hg'; cases hg'
      obtain ⟨i, e2, zs, a2, b2, m1, m2⟩ := hvals d' j' g k1 k2 us μc hro
      obtain ⟨rfl, rfl⟩ := h1.τinj _ _ _ _ _ _ _ hg m2
      obtain ⟨e3', zs3, a3, b3, k3, k4⟩ := r3 i _ m1
      cases k3
      have t2 : TokAt (rc.ls ++ outLs args) (cs ++ (os ++ us)) ((backL rc args).length + i) a b := ⟨_, _, by rw [hget2 _ (by omega), show (backL rc args).length + i - (backL rc args).length = i by omega]; exact k4, by rw [← List.append_assoc, List.getElem?_append_right (by omega), ecs, show (backL rc args).length + i - (backL rc args).length = i by omega]; exact m1, .inr ⟨e2, zs, rfl⟩⟩
      have := toks_inj _ _ [] h4 _ _ _ _ ⟨_, _, hl, he, .inr ⟨e, xs, rfl⟩⟩ t2
      omega
    refine ⟨⟨fun s es => by have := hm.ρnew s _ es; omega, fun dd jj u eu => ?_⟩, fun hlt => by omega⟩
    rcases hcases dd jj g u eu with ⟨_, eu⟩ | ⟨_, eu⟩
    ·obtain ⟨a', b', t1, t2⟩ := newTok_inv eu
     obtain ⟨rfl, rfl⟩ := h1.τinj _ _ _ _ _ _ _ t2 hg
     obtain ⟨lf, c, q1, q2, q3⟩ := t1
     have hjj : jj < (backL rc args).length := (List.getElem?_eq_some_iff.1 q1).1
     obtain rfl := toks_inj (rc.ls ++ outLs args) (cs ++ (os ++ us)) [] h4 jj j _ _ ⟨lf, c, by rw [hget1 jj hjj]; exact q1, q2, q3⟩ ⟨_, _, hl, he, .inr ⟨e, xs, rfl⟩⟩
     rw [hget1 jj hjj] at hl
     rw [newTok_freed hl he] at eu
     cases eu
    ·have := (hm.τnew dd jj g u eu).1; omega
   ·rw [Nat.zero_add] at eo
    by_cases hj : j < (backL rc args).length
    ·rw [ho1 j hj] at eo
     cases eo
     rw [hget1 j hj] at hl
     have e1 : d.beq d = true := Nat.beq_refl d
     simp only [backMp, e1, cond_true, newTok, hl, hc]
     cases c <;> rfl
    ·simp only [o] at eo
     rw [if_neg hj] at eo
     cases eo)
  refine ⟨backMp μ μc d (backL rc args) (cs ++ (os ++ us)), ⟨hm.ρinj, fun s g h => Nat.lt_of_lt_of_le (hm.ρnew s g h) hB.size, fun d' j g u h => ?_, fun d' j d'' j' g u u' h h' => ?_⟩,
   ⟨hB.size, hcell, fun b o hb hst => ?_, fun _ _ _ h => h, hhb, fun d' j v hp h => ?_, fun d' j g u hp h => hht d' j g u (by simp only [Bool.or_eq_false_iff] at hp; exact hp.2) h⟩, f1, f2, f3, rfl, fun d' j h => ?_, fun d' j g u h => ?_⟩
  ·rcases hcases d' j g u h with ⟨_, e⟩ | ⟨_, e⟩
   ·obtain ⟨f1, f2⟩ := hnew j g u e
    exact ⟨f2, fun s e => by have := (hm.ρnew s _ e); omega⟩
   ·obtain ⟨f2, f3⟩ := hm.τnew d' j g u e
    exact ⟨Nat.lt_of_lt_of_le f2 hB.size, f3⟩
  ·rcases hcases d' j g u h with ⟨e1, e⟩ | ⟨_, e⟩ <;> rcases hcases d'' j' g u' h' with ⟨e1', e'⟩ | ⟨_, e'⟩
   ·refine ⟨e1.trans e1'.symm, ?_⟩
    obtain ⟨a1, a2, ⟨lf, c, q1, q2, q3⟩, a4⟩ := newTok_inv e
    obtain ⟨b1, b2, ⟨lf', c', p1, p2, p3⟩, b4⟩ := newTok_inv e'
    obtain ⟨rfl, rfl⟩ := h1.τinj _ _ _ _ _ _ _ a4 b4
    exact toks_inj (rc.ls ++ outLs args) (cs ++ (os ++ us)) [] h4 j j' _ _ ⟨lf, c, by rw [hget1 j (List.getElem?_eq_some_iff.1 q1).1]; exact q1, q2, q3⟩ ⟨lf', c', by rw [hget1 j' (List.getElem?_eq_some_iff.1 p1).1]; exact p1, p2, p3⟩
   ·have := (hnew j g u e).1; have := (hm.τnew d'' j' g u' e').1; omega
   ·have := (hnew j' g u' e').1; have := (hm.τnew d' j g u e).1; omega
   ·exact hm.τinj _ _ _ _ _ _ _ e e'
  ·obtain ⟨g1, g2⟩ := hst
   refine ⟨g1, fun d' j u e => ?_⟩
   exact g2 d' j u (hold b d' j u hb e)
  ·simp only [Bool.or_eq_false_iff] at hp
   simp only [backMp, hpf1 d' j hp.1, cond_false]; exact h
  ·cases hd : d.beq d' with
   | true => exact .inr (Nat.eq_of_beq_eq_true hd).symm
   | false => exact .inl (by simp only [backMp, hd, cond_false]; exact h)
  ·rcases hcases d' j g u h with ⟨_, e⟩ | ⟨_, e⟩
   ·exact .inl (hnew j g u e).1
   ·exact .inr e

theorem entRun_inv {R : Type} {d : Nat} {bx : Bx Γ} {args : List (AV Γ)} {ot : List (Option Nat)} {f : Nat} {K : AV Γ → Eff Γ → Option R} {r : R} : ∀ {E : List (Ent Γ)}, entRun d bx args ot f K E = some r →
  ∃ e ∈ E, e.f = f ∧ ∃ tm cs x y, nodupB (inKeys e.args args) = true ∧ rowsOK d e.args (inToks e.args args) = true ∧ inTmps e.args ot = some tm ∧ argsIn (viewBx (inKeys e.args args) bx) e.args (viewArgs (flatB (inToks e.args args) e.ol) (restBx (inKeys e.args args) bx) e.args args) = some cs ∧ noOwnRow (e.args.flatMap VC.ls) cs = true ∧ decLeaves (e.args.flatMap VC.ls) cs = some x ∧ e.fn x = some y ∧
   K (resOf e.res (encLeaves (Own.tok d) 0 e.ol y)) (callEff e.res e.args (inKeys e.args args) tm (inToks e.args args) (encLeaves (Own.tok d) 0 e.ol y)) = some r
 | [], h => by simp [entRun] at h
 | e :: E, h => by
  simp only [entRun] at h
  have hrest : entRun d bx args ot f K E = some r → ∃ e' ∈ e :: E, e'.f = f ∧ ∃ tm cs x y, nodupB (inKeys e'.args args) = true ∧ rowsOK d e'.args (inToks e'.args args) = true ∧ inTmps e'.args ot = some tm ∧ argsIn (viewBx (inKeys e'.args args) bx) e'.args (viewArgs (flatB (inToks e'.args args) e'.ol) (restBx (inKeys e'.args args) bx) e'.args args) = some cs ∧ noOwnRow (e'.args.flatMap VC.ls) cs = true ∧ decLeaves (e'.args.flatMap VC.ls) cs = some x ∧ e'.fn x = some y ∧
    K (resOf e'.res (encLeaves (Own.tok d) 0 e'.ol y)) (callEff e'.res e'.args (inKeys e'.args args) tm (inToks e'.args args) (encLeaves (Own.tok d) 0 e'.ol y)) = some r := fun h => by
   obtain ⟨e', he, hh⟩ := entRun_inv h
   exact ⟨e', List.mem_cons_of_mem _ he, hh⟩
  cases hf : Nat.beq e.f f with
  | false =>
   simp only [hf, cond_false] at h
   exact hrest h
  | true =>
   simp only [hf, cond_true] at h
   cases hnd : (nodupB (inKeys e.args args)).and (rowsOK d e.args (inToks e.args args)) with
   | false => simp only [hnd, cond_false] at h; exact hrest h
   | true =>
    simp only [hnd, cond_true] at h
    rw [Bool.and_eq_true] at hnd
    split at h
    ·rename_i tm htm
     split at h
     ·rename_i cs hcs
      cases hno : noOwnRow (e.args.flatMap VC.ls) cs with
      | false => simp [hno] at h
      | true =>
      simp only [hno, Bool.not_true, cond_false] at h
      split at h
      ·rename_i x hx
       obtain ⟨y, hy, hk⟩ := Option.bind_eq_some_iff.1 h
       exact ⟨e, List.mem_cons_self, Nat.eq_of_beq_eq_true hf, tm, cs, x, y, hnd.1, hnd.2, htm, hcs, hno, hx, hy, hk⟩
      ·exact hrest h
     ·exact hrest h
    ·exact hrest h

theorem avCells_mrow {e : Nat} {a : AV Γ} {cs : List (Cell Γ)} (h : avCells (.mrow e) a = some cs) : ∃ e' xs d j, a = .f (.c (.own e' xs d j)) ∧ cs = [.own e' xs d j] := by
 cases a with
 | f x =>
  cases x with
  | c c =>
   cases c with
   | own e' xs d j => simp [avCells] at h; exact ⟨e', xs, d, j, rfl, h.symm⟩
   | _ => simp [avCells] at h
  | agg _ => simp [avCells] at h
 | _ => simp [avCells] at h

theorem argIn_wr {bx : Bx Γ} {k T : Nat} {ls : List LC} {a : AV Γ} {cs : List (Cell Γ)} (h : argIn bx (.wr k T ls) a = some cs) : ∃ s, a = .p (.box s 0) ∧ bxGet bx s = some (T, cs) ∧ cs.length = ls.length := by
 cases a with
 | p q =>
  cases q with
  | box s o =>
   cases o with
   | zero =>
    simp only [argIn] at h
    split at h
    ·rename_i T' cs' hb
     cases hc : (T.beq T').and (cs'.length.beq ls.length) with
     | false => rw [hc] at h; cases h
     | true =>
      rw [hc] at h
      cases h
      simp only [Bool.and_eq_true] at hc
      rw [Nat.eq_of_beq_eq_true hc.1]
      exact ⟨s, rfl, hb, Nat.eq_of_beq_eq_true hc.2⟩
    ·cases h
   | succ o => simp [argIn] at h
  | _ => simp [argIn] at h
 | _ => simp [argIn] at h

theorem inKeys_mem {μ : Mp} {w : World} : ∀ {vs : List VC} {as : List (AV Γ)} {ys : List Value}, AVsRep base S μ w as ys → ∀ s ∈ inKeys vs as, ∃ g, μ.ρ s = some g
 | [], _, _, _, s, hs => by cases hs
 | v :: vs, [], ys, _, s, hs => by cases v <;> cases hs
 | v :: vs, a :: as, [], h, _, _ => h.elim
 | v :: vs, a :: as, y :: ys, h, s, hs => by
  have ih := fun hs => inKeys_mem (vs := vs) h.2 s hs
  unfold inKeys at hs
  split at hs
  ·rename_i e1 e2
   cases e1; cases e2
   rcases List.mem_cons.1 hs with rfl | hs
   ·obtain ⟨g, hg, _⟩ := h.1
    exact ⟨g, hg⟩
   ·exact ih hs
  ·rename_i e1 e2
   cases e1; cases e2
   exact ih hs
  ·cases hs


theorem rowIn_skip {v : VC} {vs : List VC} {a : AV Γ} {as : List (AV Γ)} {y : Value} {ys : List Value} (hv : ∀ e, v ≠ .mrow e) : rowIn (v :: vs) (a :: as) (y :: ys) = rowIn vs as ys := by
 cases v with
 | mrow e => exact (hv e rfl).elim
 | _ => rfl

theorem handTok_cons {x : Nat × Nat × Value} {l : List (Nat × Nat × Value)} {d j : Nat} (h : handTok (x :: l) d j = true) : (x.1 = d ∧ x.2.1 = j ∧ ∃ A n c, x.2.2 = .slice (some A) n c) ∨ handTok l d j = true := by
 unfold handTok at h ⊢
 rw [List.any_cons, Bool.or_eq_true] at h
 rcases h with h | h
 ·simp only [Bool.and_eq_true] at h
  refine .inl ⟨Nat.eq_of_beq_eq_true h.1.1, Nat.eq_of_beq_eq_true h.1.2, ?_⟩
  have h2 := h.2
  split at h2
  ·rename_i A n c e; exact ⟨A, n, c, e⟩
  ·cases h2
 ·exact .inr h

theorem hand_own {μ : Mp} {w : World} : ∀ {vs : List VC} {as : List (AV Γ)} {ys : List Value}, AVsRep base S μ w as ys → ∀ d j, handTok (rowIn vs as ys) d j = true → ∃ g, μ.τ d j = some (g, 0)
 | [], as, ys, _, d, j, h => by cases as <;> cases ys <;> cases h
 | v :: vs, [], ys, _, d, j, h => by cases v <;> cases ys <;> cases h
 | v :: vs, a :: as, [], h, _, _, _ => h.elim
 | v :: vs, a :: as, y :: ys, hr, d, j, h => by
  have ih := fun h => hand_own (vs := vs) hr.2 d j h
  unfold rowIn at h
  split at h
  ·rename_i e1 e2 e3
   cases e1; cases e2; cases e3
   rcases handTok_cons h with ⟨rfl, rfl, A, n, c, e⟩ | h
   ·rcases hr.1 with ⟨_, e'⟩ | ⟨g, cur, h1, _⟩
    ·rw [e'] at e; cases e
    ·exact ⟨g, h1⟩
   ·exact ih h
  ·rename_i e1 e2 e3
   cases e1; cases e2; cases e3
   exact ih h
  ·cases h

theorem hand_out {base' : Nat} {S' : Nat → Nat → Prop} {μ μi μc : Mp} {w w' : World} : ∀ {vs : List VC} {as : List (AV Γ)} {ys : List Value} {us : List (Cell Γ)}, AVsRep base S μ w as ys → RowOut base' S' μi μc w' vs as ys us → ∀ d j g, handTok (rowIn vs as ys) d j = true → μ.τ d j = some (g, 0) → ∃ (i e : Nat) (zs : List (Γ.kd e).α) (a b : Nat), us[i]? = some (.own e zs a b) ∧ μc.τ a b = some (g, 0)
 | [], as, ys, us, _, _, d, j, g, h, _ => by cases as <;> cases ys <;> cases h
 | v :: vs, as, ys, us, hr, ho, d, j, g, h, hg => by
  by_cases hv : ∃ e, v = .mrow e
  ·obtain ⟨e, rfl⟩ := hv
   obtain ⟨e', xs, d', j', as', y, ys', zs, a, b, rest, rfl, rfl, rfl, h1, h2, h3⟩ := ho.cons
   have h : handTok ((d', j', y) :: rowIn vs as' ys') d j = true := h
   rcases handTok_cons h with ⟨e1, e2, A, n, c, e3⟩ | h
   ·have e1 : d' = d := e1
    have e2 : j' = j := e2
    subst e1 e2
    have e3 : y = .slice (some A) n c := e3
    subst e3
    have hr1 : CellRep base S μ w (.own e' xs d' j' : Cell Γ) (.slice (some A) n c) := hr.1
    rcases hr1 with ⟨_, e'⟩ | ⟨g1, cur, k1, _, _, _, c1, _, k2, _⟩
    ·cases e'
    ·rw [hg] at k1
     cases k1
     rcases h1 with ⟨_, e'⟩ | ⟨g2, cur2, m1, _, _, _, c2, _, m2, _⟩
     ·cases e'
     ·refine ⟨0, e, zs, a, b, rfl, ?_⟩
      rw [k2] at m2
      injection m2 with m2
      injection m2 with m2
      injection m2 with m2
      rw [m1, m2]
   ·obtain ⟨i, e2, zs2, a2, b2, m1, m2⟩ := hand_out (vs := vs) hr.2 h3 d j g h hg
    exact ⟨i + 1, e2, zs2, a2, b2, by simpa using m1, m2⟩
  ·have hv' : ∀ e, v ≠ .mrow e := fun e he => hv ⟨e, he⟩
   obtain ⟨a, as', y, ys', rfl, rfl, h1⟩ := ho.skip hv'
   rw [rowIn_skip hv'] at h
   exact hand_out hr.2 h1 d j g h hg

theorem inToks_skip {v : VC} {vs : List VC} {a : AV Γ} {as : List (AV Γ)} (hv : ∀ e, v ≠ .mrow e) : inToks (v :: vs) (a :: as) = inToks vs as := by
 cases v with
 | mrow e => exact (hv e rfl).elim
 | _ => rfl

theorem mrow_cases (a : AV Γ) : (∃ e' xs d j, a = .f (.c (.own e' xs d j))) ∨ ∀ (e e0 : Nat) (vs : List VC) (as : List (AV Γ)) (y : Value) (ys : List Value), inToks (.mrow e :: vs) (a :: as) = inToks vs as ∧ rowIn (.mrow e :: vs) (a :: as) (y :: ys) = rowIn vs as ys ∧ ∀ base S μ w' ys cs, ¬ RowBack base S μ w' (.mrow e :: vs) (a :: as) ys cs := by
 cases a with
 | f x =>
  cases x with
  | c c =>
   cases c with
   | own e' xs d j => exact .inl ⟨e', xs, d, j, rfl⟩
   | _ => exact .inr fun _ _ _ _ _ _ => ⟨rfl, rfl, fun _ _ _ _ ys _ h => by cases ys <;> exact h⟩
  | agg _ => exact .inr fun _ _ _ _ _ _ => ⟨rfl, rfl, fun _ _ _ _ ys _ h => by cases ys <;> exact h⟩
 | _ => exact .inr fun _ _ _ _ _ _ => ⟨rfl, rfl, fun _ _ _ _ ys _ h => by cases ys <;> exact h⟩

theorem hand_in : ∀ {vs : List VC} {as : List (AV Γ)} {ys : List Value} {d j : Nat}, handTok (rowIn vs as ys) d j = true → (d, j) ∈ inToks vs as
 | [], as, ys, _, _, h => by cases as <;> cases ys <;> cases h
 | v :: vs, [], ys, _, _, h => by cases v <;> cases ys <;> cases h
 | v :: vs, a :: as, [], _, _, h => by
  have : rowIn (v :: vs) (a :: as) [] = [] := by unfold rowIn; split <;> first | rfl | (rename_i e; cases e)
  rw [this] at h; cases h
 | v :: vs, a :: as, y :: ys, d, j, h => by
  by_cases hv : ∃ e, v = .mrow e
  ·obtain ⟨e, rfl⟩ := hv
   rcases mrow_cases a with ⟨e', xs, d', j', rfl⟩ | hno
   ·have h : handTok ((d', j', y) :: rowIn vs as ys) d j = true := h
    show (d, j) ∈ (d', j') :: inToks vs as
    rcases handTok_cons h with ⟨h1, h2, _⟩ | h
    ·have h1 : d' = d := h1
     have h2 : j' = j := h2
     subst h1 h2
     exact List.mem_cons_self
    ·exact List.mem_cons_of_mem _ (hand_in h)
   ·obtain ⟨h1, h2, _⟩ := hno e 0 vs as y ys
    rw [h2] at h
    rw [h1]
    exact hand_in h
  ·have hv' : ∀ e, v ≠ .mrow e := fun e he => hv ⟨e, he⟩
   rw [rowIn_skip hv'] at h
   rw [inToks_skip hv']
   exact hand_in h

theorem rowIn_view (fl : Bool) (bx : Bx Γ) : ∀ (vs : List VC) (as : List (AV Γ)) (ys : List Value), rowIn vs (viewArgs fl bx vs as) ys = rowIn vs as ys
 | [], as, ys => by
  have : ∀ (as : List (AV Γ)) (ys : List Value), rowIn [] as ys = [] := fun as ys => by cases as <;> cases ys <;> rfl
  rw [this, this]
 | v :: vs, [], ys => by cases v <;> rfl
 | v :: vs, a :: as, [] => by
  have : ∀ (as : List (AV Γ)), rowIn (v :: vs) as [] = [] := fun as => by unfold rowIn; split <;> first | rfl | (rename_i e; cases e)
  rw [this, this]
 | v :: vs, a :: as, y :: ys => by
  have ih := rowIn_view fl bx vs as ys
  by_cases hv : ∃ e, v = .mrow e
  ·obtain ⟨e, rfl⟩ := hv
   have e1 : viewArgs fl bx (.mrow e :: vs) (a :: as) = a :: viewArgs fl bx vs as := rfl
   rw [e1]
   rcases mrow_cases a with ⟨e', xs, d', j', rfl⟩ | hno
   ·show (d', j', y) :: rowIn vs (viewArgs fl bx vs as) ys = (d', j', y) :: rowIn vs as ys
    rw [ih]
   ·rw [(hno e 0 vs as y ys).2.1, (hno e 0 vs (viewArgs fl bx vs as) y ys).2.1, ih]
  ·have hv' : ∀ e, v ≠ .mrow e := fun e he => hv ⟨e, he⟩
   have : ∃ a', viewArgs fl bx (v :: vs) (a :: as) = a' :: viewArgs fl bx vs as := by
    cases v with
    | mrow e => exact (hv ⟨e, rfl⟩).elim
    | _ => exact ⟨_, rfl⟩
   obtain ⟨a', ha⟩ := this
   rw [ha, rowIn_skip hv', rowIn_skip hv', ih]

theorem inToks_view (fl : Bool) (bx : Bx Γ) : ∀ (vs : List VC) (as : List (AV Γ)), inToks vs (viewArgs fl bx vs as) = inToks vs as
 | [], as => by
  have : ∀ (as : List (AV Γ)), inToks [] as = [] := fun as => by cases as <;> rfl
  rw [this, this]
 | v :: vs, [] => by cases v <;> rfl
 | v :: vs, a :: as => by
  have ih := inToks_view fl bx vs as
  by_cases hv : ∃ e, v = .mrow e
  ·obtain ⟨e, rfl⟩ := hv
   have e1 : viewArgs fl bx (.mrow e :: vs) (a :: as) = a :: viewArgs fl bx vs as := rfl
   rw [e1]
   rcases mrow_cases a with ⟨e', xs, d', j', rfl⟩ | hno
   ·show (d', j') :: inToks vs (viewArgs fl bx vs as) = (d', j') :: inToks vs as
    rw [ih]
   ·rw [(hno e 0 vs as undef []).1, (hno e 0 vs (viewArgs fl bx vs as) undef []).1, ih]
  ·have hv' : ∀ e, v ≠ .mrow e := fun e he => hv ⟨e, he⟩
   have : ∃ a', viewArgs fl bx (v :: vs) (a :: as) = a' :: viewArgs fl bx vs as := by
    cases v with
    | mrow e => exact (hv ⟨e, rfl⟩).elim
    | _ => exact ⟨_, rfl⟩
   obtain ⟨a', ha⟩ := this
   rw [ha, inToks_skip hv', inToks_skip hv', ih]

theorem RowOut_view {fl : Bool} {bx : Bx Γ} {base' : Nat} {S' : Nat → Nat → Prop} {μi μc : Mp} {w' : World} : ∀ {vs : List VC} {as : List (AV Γ)} {ys : List Value} {us : List (Cell Γ)}, RowOut base' S' μi μc w' vs (viewArgs fl bx vs as) ys us → RowOut base' S' μi μc w' vs as ys us
 | [], as, ys, us, h => by
  have : ∀ (as : List (AV Γ)) (ys : List Value), RowOut base' S' μi μc w' [] as ys us = (us = []) := fun as ys => by cases as <;> cases ys <;> rfl
  rw [this] at h ⊢
  exact h
 | v :: vs, [], ys, us, h => by
  have e : viewArgs fl bx (v :: vs) [] = [] := by cases v <;> rfl
  rw [e] at h
  exact h
 | v :: vs, a :: as, ys, us, h => by
  by_cases hv : ∃ e, v = .mrow e
  ·obtain ⟨e, rfl⟩ := hv
   have e : viewArgs fl bx (.mrow e :: vs) (a :: as) = a :: viewArgs fl bx vs as := rfl
   rw [e] at h
   obtain ⟨e', xs, d', j', as', y, ys', zs, a', b, rest, q, rfl, rfl, h1, h2, h3⟩ := h.cons
   cases q
   exact ⟨zs, a', b, rest, rfl, h1, h2, RowOut_view h3⟩
  ·have hv' : ∀ e, v ≠ .mrow e := fun e he => hv ⟨e, he⟩
   obtain ⟨a', as', y, ys', q, rfl, h1⟩ := h.skip hv'
   have : ∃ a'', viewArgs fl bx (v :: vs) (a :: as) = a'' :: viewArgs fl bx vs as := by cases v <;> exact ⟨_, rfl⟩
   obtain ⟨a'', ha⟩ := this
   rw [ha] at q
   cases q
   have := RowOut_view h1
   cases v with
   | mrow e => exact (hv ⟨e, rfl⟩).elim
   | _ => exact this

theorem back_skip {base' : Nat} {S' : Nat → Nat → Prop} {μ' : Mp} {w' : World} {v : VC} {vs : List VC} {a : AV Γ} {as : List (AV Γ)} {ys : List Value} {cs2 : List (Cell Γ)} (hv : ∀ e, v ≠ .mrow e) (hb : RowBack base' S' μ' w' (v :: vs) (a :: as) ys cs2) : ∃ y ys', ys = y :: ys' ∧ RowBack base' S' μ' w' vs as ys' cs2 := by
 cases v with
 | mrow e => exact (hv e rfl).elim
 | _ => cases ys with
  | nil => exact hb.elim
  | cons y ys => exact ⟨y, ys, rfl, hb⟩

theorem tmps_skip {v : VC} {vs : List VC} {ot : List (Option Nat)} {tm : List Nat} (hv : ∀ e, v ≠ .mrow e) (ht : inTmps (v :: vs) ot = some tm) : ∃ ot', inTmps vs ot' = some tm ∧ ∀ (i t : Nat), ot'[i]? = some (some t) → ot[i + 1]? = some (some t) := by
 cases v with
 | mrow e => exact (hv e rfl).elim
 | _ => cases ot with
  | nil => exact ⟨[], by simpa [inTmps] using ht, fun i t hi => by simp at hi⟩
  | cons o ot => exact ⟨ot, by simpa [inTmps] using ht, fun i t hi => by simpa using hi⟩

theorem tmps_mrow {e : Nat} {vs : List VC} {ot : List (Option Nat)} {tm : List Nat} (ht : inTmps (.mrow e :: vs) ot = some tm) : ∃ t ot' ts, ot = some t :: ot' ∧ tm = t :: ts ∧ inTmps vs ot' = some ts := by
 cases ot with
 | nil => simp [inTmps] at ht
 | cons o ot =>
  cases o with
  | none => simp [inTmps] at ht
  | some t =>
   simp only [inTmps] at ht
   split at ht
   ·rename_i ts hts; cases ht; exact ⟨t, ot, ts, rfl, rfl, hts⟩
   ·cases ht

theorem back_mrow {base' : Nat} {S' : Nat → Nat → Prop} {μ' : Mp} {w' : World} {e : Nat} {vs : List VC} {a : AV Γ} {as : List (AV Γ)} {ys : List Value} {cs2 : List (Cell Γ)} (hb : RowBack base' S' μ' w' (.mrow e :: vs) (a :: as) ys cs2) : ∃ e' xs d j y ys' c cs', a = .f (.c (.own e' xs d j)) ∧ ys = y :: ys' ∧ cs2 = c :: cs' ∧ CellRep base' S' μ' w' (retok d j c) y ∧ RowBack base' S' μ' w' vs as ys' cs' := by
 rcases mrow_cases a with ⟨e', xs, d', j', rfl⟩ | hno
 ·cases ys with
  | nil => exact hb.elim
  | cons y ys =>
   cases cs2 with
   | nil => exact hb.elim
   | cons c cs2 => exact ⟨e', xs, d', j', y, ys, c, cs2, rfl, rfl, rfl, hb.1, hb.2⟩
 ·exact ((hno e 0 vs as undef []).2.2 _ _ _ _ _ _ hb).elim

theorem zip_has {base' : Nat} {S' : Nat → Nat → Prop} {μ' : Mp} {w' : World} : ∀ {vs : List VC} {as : List (AV Γ)} {ys : List Value} {cs2 : List (Cell Γ)} {ot : List (Option Nat)} {tm : List Nat}, RowBack base' S' μ' w' vs as ys cs2 → inTmps vs ot = some tm → ∀ {d j}, (d, j) ∈ inToks vs as → rowHas (zipRows tm (inToks vs as) cs2) d j = true
 | [], as, ys, cs2, ot, tm, _, _, d, j, h => by
  have : inToks [] as = [] := by cases as <;> rfl
  rw [this] at h; cases h
 | v :: vs, [], ys, cs2, ot, tm, _, _, d, j, h => by
  have : inToks (v :: vs) ([] : List (AV Γ)) = [] := by cases v <;> rfl
  rw [this] at h; cases h
 | v :: vs, a :: as, ys, cs2, ot, tm, hb, ht, d, j, h => by
  by_cases hv : ∃ e, v = .mrow e
  ·obtain ⟨e, rfl⟩ := hv
   obtain ⟨e', xs, d', j', y, ys', c, cs', rfl, rfl, rfl, hb1, hb2⟩ := back_mrow hb
   obtain ⟨t, ot', ts, rfl, rfl, hts⟩ := tmps_mrow ht
   have h : (d, j) ∈ (d', j') :: inToks vs as := h
   show ((d'.beq d).and (j'.beq j)).or (rowHas (zipRows ts (inToks vs as) cs') d j) = true
   rcases List.mem_cons.1 h with h | h
   ·cases h; rw [Nat.beq_refl, Nat.beq_refl]; rfl
   ·rw [zip_has hb2 hts h, Bool.or_true]
  ·have hv' : ∀ e, v ≠ .mrow e := fun e he => hv ⟨e, he⟩
   rw [inToks_skip hv'] at h ⊢
   obtain ⟨y, ys', rfl, hb'⟩ := back_skip hv' hb
   obtain ⟨ot', ht', _⟩ := tmps_skip hv' ht
   exact zip_has hb' ht' h

theorem zip_rows {base' : Nat} {S' : Nat → Nat → Prop} {μ' : Mp} {w' : World} {ev0 : Operand → Value} : ∀ {vs : List VC} {as : List (AV Γ)} {ys : List Value} {cs2 : List (Cell Γ)} {ot : List (Option Nat)} {tm : List Nat}, RowBack base' S' μ' w' vs as ys cs2 → inTmps vs ot = some tm → (∀ (i t : Nat), ot[i]? = some (some t) → ys[i]? = some (ev0 (.tmp t))) →
  ∀ x ∈ zipRows tm (inToks vs as) cs2, CellRep base' S' μ' w' (retok x.2.1 x.2.2.1 x.2.2.2) (ev0 (.tmp x.1))
 | [], as, ys, cs2, ot, tm, _, _, _, x, h => by
  have : inToks [] as = [] := by cases as <;> rfl
  rw [this] at h
  cases tm <;> cases h
 | v :: vs, [], ys, cs2, ot, tm, _, _, _, x, h => by
  have : inToks (v :: vs) ([] : List (AV Γ)) = [] := by cases v <;> rfl
  rw [this] at h
  cases tm <;> cases h
 | v :: vs, a :: as, ys, cs2, ot, tm, hb, ht, hv, x, h => by
  by_cases hvm : ∃ e, v = .mrow e
  ·obtain ⟨e, rfl⟩ := hvm
   obtain ⟨e', xs, d', j', y, ys', c, cs', rfl, rfl, rfl, hb1, hb2⟩ := back_mrow hb
   obtain ⟨t, ot', ts, rfl, rfl, hts⟩ := tmps_mrow ht
   have h : x ∈ (t, d', j', c) :: zipRows ts (inToks vs as) cs' := h
   rcases List.mem_cons.1 h with rfl | h
   ·have := hv 0 t rfl
    simp only [List.getElem?_cons_zero, Option.some.injEq] at this
    show CellRep base' S' μ' w' (retok d' j' c) (ev0 (.tmp t))
    rw [← this]
    exact hb1
   ·exact zip_rows hb2 hts (fun i t hi => by simpa using hv (i + 1) t (by simpa using hi)) x h
  ·have hv' : ∀ e, v ≠ .mrow e := fun e he => hvm ⟨e, he⟩
   rw [inToks_skip hv'] at h
   obtain ⟨y, ys', rfl, hb'⟩ := back_skip hv' hb
   obtain ⟨ot', ht', hot⟩ := tmps_skip hv' ht
   exact zip_rows hb' ht' (fun i t hi => by simpa using hv (i + 1) t (hot i t hi)) x h

theorem viewArgs_rep {fl : Bool} {μ : Mp} {ks : List Nat} {l : List (Nat × Nat × Value)} (hfl : fl = true → l = []) {w : World} (hmm : MapsOK base μ w) {bx : Bx Γ} (hm : ∀ s s' g, μ.ρ s = some g → μ.ρ s' = some g → s = s') (hb : ∀ s T cs, bxGet bx s = some (T, cs) → hasKey ks s = false ∧ BoxRep base S μ w s T cs) : ∀ {vs : List VC} {as : List (AV Γ)} {ys : List Value}, AVsRep base S μ w as ys →
  (∀ s ∈ inKeys vs as, s ∈ ks) → (∀ d j, handTok (rowIn vs as ys) d j = true → handTok l d j = true) → (argsIn (Γ := Γ) (viewBx ks bx) [] [] = some []) → AVsRep w.heap.size (viewS fl base S μ) (μv μ ks l) w (viewArgs fl bx vs as) ys ∨ ∀ bx', argsIn bx' vs (viewArgs fl bx vs as) = none
 | [], as, ys, h, _, _, _ => by
  left
  have : ∀ (as : List (AV Γ)) (ys : List Value), AVsRep base S μ w as ys → AVsRep w.heap.size (viewS fl base S μ) (μv μ ks l) w (as.map (viewAV fl bx)) ys := by
   intro as
   induction as with
   | nil => intro ys h; cases ys with
    | nil => trivial
    | cons _ _ => exact h.elim
   | cons a as ih => intro ys h; cases ys with
    | nil => exact h.elim
    | cons y ys => exact ⟨viewAV_rep hfl hmm hm hb h.1, ih ys h.2⟩
  cases as <;> exact this _ _ h
 | v :: vs, [], [], _, _, _, _ => .inl (by cases v <;> trivial)
 | v :: vs, [], _ :: _, h, _, _, _ => h.elim
 | v :: vs, a :: as, [], h, _, _, _ => h.elim
 | v :: vs, a :: as, y :: ys, h, hs, ht, hn => by
  have plain : (∀ e, v ≠ .mrow e) → viewArgs fl bx (v :: vs) (a :: as) = viewAV fl bx a :: viewArgs fl bx vs as → inKeys (v :: vs) (a :: as) = inKeys vs as → AVsRep w.heap.size (viewS fl base S μ) (μv μ ks l) w (viewArgs fl bx (v :: vs) (a :: as)) (y :: ys) ∨ ∀ bx', argsIn bx' (v :: vs) (viewArgs fl bx (v :: vs) (a :: as)) = none := by
   intro hv e1 e2
   rw [e2] at hs
   rw [rowIn_skip hv] at ht
   rcases viewArgs_rep hfl hmm hm hb h.2 hs ht hn with ih | ih
   ·rw [e1]; exact .inl ⟨viewAV_rep hfl hmm hm hb h.1, ih⟩
   ·refine .inr fun bx' => ?_
    rw [e1]
    simp only [argsIn, ih]
    split <;> rfl
  cases v with
  | wr k T ls =>
   by_cases hp : ∃ s, a = .p (.box s 0)
   ·obtain ⟨s, rfl⟩ := hp
    have hs' : ∀ x ∈ inKeys vs as, x ∈ ks := fun x hx => hs x (List.mem_cons_of_mem _ hx)
    have hk : s ∈ ks := hs s List.mem_cons_self
    rcases viewArgs_rep hfl hmm hm hb h.2 hs' ht hn with ih | ih
    ·refine .inl ⟨?_, ih⟩
     obtain ⟨g, hg, e⟩ := h.1
     exact ⟨g, by simp only [μv, hasKey_mem.2 hk, cond_true]; exact hg, e⟩
    ·refine .inr fun bx' => ?_
     simp only [viewArgs, argsIn, ih]
     split <;> rfl
   ·refine .inr fun bx' => ?_
    have : argIn bx' (.wr k T ls) a = none := by
     cases hh : argIn bx' (.wr k T ls) a with
     | none => rfl
     | some cs => obtain ⟨s, e, _⟩ := argIn_wr hh; exact absurd ⟨s, e⟩ hp
    simp only [viewArgs, argsIn, this]
  | mrow e =>
   by_cases hp : ∃ e' xs d j, a = .f (.c (.own e' xs d j))
   ·obtain ⟨e', xs, d, j, rfl⟩ := hp
    have ht' : ∀ d' j', handTok (rowIn vs as ys) d' j' = true → handTok l d' j' = true := fun d' j' hh => ht d' j' (by
     show handTok ((d, j, y) :: rowIn vs as ys) d' j' = true
     unfold handTok at hh ⊢
     rw [List.any_cons, hh, Bool.or_true])
    rcases viewArgs_rep hfl hmm hm hb h.2 hs ht' hn with ih | ih
    ·refine .inl ⟨?_, ih⟩
     rcases h.1 with hh | ⟨g, cur, q1, q2, q3, q4, c, q5, rfl, q6⟩
     ·exact .inl hh
     ·refine .inr ⟨g, cur, ?_, q2, q3, q4, c, q5, rfl, q6⟩
      have : handTok l d j = true := ht d j (by
       show handTok ((d, j, _) :: rowIn vs as ys) d j = true
       unfold handTok
       rw [List.any_cons]
       simp [Nat.beq_refl])
      simp only [μv, this, cond_true]
      exact q1
    ·refine .inr fun bx' => ?_
     simp only [viewArgs, argsIn, ih]
     split <;> rfl
   ·refine .inr fun bx' => ?_
    have : argIn bx' (.mrow e) a = none := by
     cases hh : argIn bx' (.mrow e) a with
     | none => rfl
     | some cs => obtain ⟨e', xs, d, j, q, _⟩ := avCells_mrow (show avCells (.mrow e) a = some cs from hh); exact absurd ⟨e', xs, d, j, q⟩ hp
    simp only [viewArgs, argsIn, this]
  | c z => exact plain (fun _ e => by cases e) rfl rfl
  | agg z => exact plain (fun _ e => by cases e) rfl rfl
  | clo f z => exact plain (fun _ e => by cases e) rfl rfl
  | ref z => exact plain (fun _ e => by cases e) rfl rfl

theorem bxGet_map (f : Cell Γ → Cell Γ) : ∀ (bx : Bx Γ) (s : Nat), bxGet (bx.map fun x => (x.1, x.2.1, x.2.2.map f)) s = (bxGet bx s).map fun x => (x.1, x.2.map f)
 | [], _ => rfl
 | (i, a) :: r, s => by
  simp only [List.map_cons, bxGet]
  cases Nat.beq i s with
  | true => rfl
  | false => exact bxGet_map f r s

theorem bxGet_filter (p : Nat → Bool) : ∀ (bx : Bx Γ) (s : Nat), bxGet (bx.filter fun x => !p x.1) s = bif p s then none else bxGet bx s
 | [], s => by cases p s <;> rfl
 | (i, a) :: r, s => by
  have ih := bxGet_filter p r s
  cases hp : p i with
  | true =>
   rw [List.filter_cons_of_neg (by simp [hp]), ih]
   simp only [bxGet]
   cases hi : Nat.beq i s with
   | true =>
    obtain rfl := Nat.eq_of_beq_eq_true hi
    simp [hp]
   | false => rfl
  | false =>
   rw [List.filter_cons_of_pos (by simp [hp])]
   simp only [bxGet]
   cases hi : Nat.beq i s with
   | true =>
    obtain rfl := Nat.eq_of_beq_eq_true hi
    simp [hp]
   | false => simpa using ih

theorem bxGet_viewBx (ks : List Nat) (bx : Bx Γ) (s : Nat) : bxGet (viewBx ks bx) s = bif hasKey ks s then (bxGet bx s).map (fun x => (x.1, x.2.map (roCell fun _ _ => true))) else none := by
 have := bxGet_filter (fun s => !hasKey ks s) bx s
 simp only [Bool.not_not] at this
 simp only [viewBx, bxGet_map, this]
 cases hasKey ks s <;> rfl

theorem bxGet_restBx (ks : List Nat) (bx : Bx Γ) (s : Nat) : bxGet (restBx ks bx) s = bif hasKey ks s then none else bxGet bx s := bxGet_filter (hasKey ks) bx s

theorem inKeys_cons {v : VC} {vs : List VC} {a : AV Γ} {as as' : List (AV Γ)} (h : inKeys vs as' = inKeys vs as) : inKeys (v :: vs) (a :: as') = inKeys (v :: vs) (a :: as) := by
 cases v with
 | wr k T ls =>
  cases a with
  | p q =>
   cases q with
   | box s o => cases o <;> simp [inKeys, h]
   | _ => simp [inKeys, h]
  | _ => simp [inKeys, h]
 | _ => simp [inKeys, h]

theorem inKeys_view (fl : Bool) (bx : Bx Γ) : ∀ (vs : List VC) (as : List (AV Γ)), inKeys vs (viewArgs fl bx vs as) = inKeys vs as
 | [], as => by cases as <;> rfl
 | v :: vs, [] => by cases v <;> rfl
 | v :: vs, a :: as => by
  have ih := inKeys_view fl bx vs as
  cases v with
  | wr k T ls => exact inKeys_cons ih
  | _ => simpa [viewArgs, inKeys] using ih

def InTs (bx : Bx Γ) : List (Nat × Nat × List LC) → List Nat → Prop
 | (_, T, _) :: r, s :: ks => (∀ T' cs, bxGet bx s = some (T', cs) → T' = T) ∧ InTs bx r ks
 | [], [] => True
 | _, _ => False

theorem inTs_of {fl : Bool} {ks : List Nat} {bx bx1 : Bx Γ} : ∀ {vs : List VC} {as : List (AV Γ)} {cs : List (Cell Γ)}, argsIn (viewBx ks bx) vs (viewArgs fl bx1 vs as) = some cs → InTs bx (mutsOf vs) (inKeys vs as)
 | [], as, _, h => by cases as <;> first | trivial | simp [viewArgs, argsIn] at h
 | v :: vs, [], _, h => by cases v <;> simp [viewArgs, argsIn] at h
 | v :: vs, a :: as, cs, h => by
  have hne : ∀ a', viewArgs fl bx1 (v :: vs) (a :: as) = a' :: viewArgs fl bx1 vs as → (∃ c, argIn (viewBx ks bx) v a' = some c) ∧ InTs bx (mutsOf vs) (inKeys vs as) := fun a' e => by
   rw [e] at h
   simp only [argsIn] at h
   split at h
   ·rename_i c1 h1
    split at h
    ·rename_i c2 h2; exact ⟨⟨c1, h1⟩, inTs_of h2⟩
    ·cases h
   ·cases h
  cases v with
  | wr k T ls =>
   obtain ⟨⟨c, h1⟩, h2⟩ := hne a rfl
   obtain ⟨s, rfl, h3, _⟩ := argIn_wr h1
   refine ⟨fun T' cs' e => ?_, h2⟩
   rw [bxGet_viewBx] at h3
   cases hk : hasKey ks s with
   | false => rw [hk] at h3; cases h3
   | true =>
    rw [hk, e] at h3
    cases h3
    rfl
  | c l => exact (hne _ rfl).2
  | agg l => exact (hne _ rfl).2
  | clo f l => exact (hne _ rfl).2
  | ref l => exact (hne _ rfl).2
  | mrow l => exact (hne _ rfl).2

theorem outs_any {μ : Mp} {w : World} (s : Nat) : ∀ {ms : List (Nat × Nat × List LC)} {ks : List Nat} {cs cs' : List (Cell Γ)}, OutBack base S μ w ms ks cs → ((outsOf ms ks cs').any fun x => x.1.beq s) = hasKey ks s
 | [], [], _, _, _ => rfl
 | (k, T, ls) :: ms, s' :: ks, cs, cs', h => by
  have ih := outs_any s (cs' := cs'.drop ls.length) h.2
  simp only [outsOf, List.any_cons, hasKey] at ih ⊢
  rw [ih]
  congr 1
  cases h1 : s'.beq s with
  | true => rw [Nat.eq_of_beq_eq_true h1, Nat.beq_refl]
  | false =>
   cases h2 : s.beq s' with
   | true => rw [Nat.eq_of_beq_eq_true h2, Nat.beq_refl] at h1; cases h1
   | false => rfl
 | [], _ :: _, _, _, h => h.elim
 | _ :: _, [], _, _, h => h.elim

theorem outs_box {μ : Mp} {w : World} {bx : Bx Γ} : ∀ {ms : List (Nat × Nat × List LC)} {ks : List Nat} {cs : List (Cell Γ)}, OutBack base S μ w ms ks cs → InTs bx ms ks → ∀ x ∈ outsOf ms ks cs, ∀ T old, bxGet bx x.1 = some (T, old) → BoxRep base S μ w x.1 T x.2
 | [], [], _, _, _, x, hx, _, _, _ => by cases hx
 | (k, T, ls) :: ms, s' :: ks, cs, h, ht, x, hx, T', old, hb => by
  simp only [outsOf] at hx
  rcases List.mem_cons.1 hx with rfl | hx
  ·obtain rfl := ht.1 T' old hb
   exact h.1
  ·exact outs_box h.2 ht.2 x hx T' old hb
 | [], _ :: _, _, h, _, _, _, _, _, _ => h.elim
 | _ :: _, [], _, h, _, _, _, _, _, _ => h.elim

theorem callEff_p {rc : RC} {vs : List VC} {ks : List Nat} {tm : List Nat} {ts : List (Nat × Nat)} {cs : List (Cell Γ)} {d : Nat} (hkind : mutsOf vs = [] ∨ rowsOf vs = []) : ∀ d' j, pE (some d) (callEff rc vs ks tm ts cs) d' j = (pF d ((backL rc vs).any LC.isRow) d' j).or (match mutsOf vs, ts with
  | [], _ :: _ => rowHas (zipRows tm ts (cs.drop rc.ls.length)) d' j
  | _, _ => false) := by
 intro d' j
 unfold callEff
 cases hm : mutsOf vs with
 | nil =>
  have e1 : backL rc vs = rc.ls := by simp [backL, hm]
  rw [e1]
  cases ts with
  | nil => cases rc.ls.any LC.isRow <;> simp [pE, pF]
  | cons t ts => simp only [pE, pF, isTok]
 | cons m ms =>
  have e1 : rc.ls ++ outLs vs = backL rc vs := by
   rcases hkind with h | h
   ·rw [hm] at h; cases h
   ·simp [backL, outLs, h]
  simp only [e1, pE, pF, Bool.or_false]
theorem callEff_q {rc : RC} {vs : List VC} {ks : List Nat} {tm : List Nat} {ts : List (Nat × Nat)} {cs : List (Cell Γ)} {d : Option Nat} : qE d (callEff rc vs ks tm ts cs) = no1 := by
 unfold callEff
 split
 ·split
  ·cases rc.ls.any LC.isRow <;> rfl
  ·rfl
 ·rfl
theorem callEff_i {rc : RC} {vs : List VC} {ks : List Nat} {tm : List Nat} {ts : List (Nat × Nat)} {cs cs' : List (Cell Γ)} {d : Option Nat} {μ : Mp} {w : World} (h : OutBack base S μ w (mutsOf vs) ks cs') : iE d (callEff rc vs ks tm ts cs) = hasKey ks := by
 funext s
 unfold callEff
 split
 ·rename_i hm
  rw [hm] at h
  cases ks with
  | nil => split <;> first | (cases rc.ls.any LC.isRow <;> rfl) | rfl
  | cons _ _ => exact h.elim
 ·exact outs_any s h

theorem rowIn_nil : ∀ {vs : List VC} {as : List (AV Γ)} {ys : List Value}, inToks vs as = [] → rowIn vs as ys = []
 | [], as, ys, _ => by cases as <;> cases ys <;> rfl
 | v :: vs, [], ys, _ => by cases v <;> cases ys <;> rfl
 | v :: vs, a :: as, [], _ => by unfold rowIn; split <;> first | rfl | (rename_i e; cases e)
 | v :: vs, a :: as, y :: ys, h => by
  by_cases hv : ∃ e, v = .mrow e
  ·obtain ⟨e, rfl⟩ := hv
   rcases mrow_cases a with ⟨e', xs, d', j', rfl⟩ | hno
   ·have h : (d', j') :: inToks vs as = [] := h
    cases h
   ·rw [(hno e 0 vs as y ys).1] at h
    rw [(hno e 0 vs as y ys).2.1]
    exact rowIn_nil h
  ·have hv' : ∀ e, v ≠ .mrow e := fun e he => hv ⟨e, he⟩
   rw [inToks_skip hv'] at h
   rw [rowIn_skip hv']
   exact rowIn_nil h

theorem toks_rows : ∀ {vs : List VC} {as : List (AV Γ)}, rowsOf vs = [] → inToks vs as = []
 | [], as, _ => by cases as <;> rfl
 | v :: vs, [], _ => by cases v <;> rfl
 | v :: vs, a :: as, h => by
  by_cases hv : ∃ e, v = .mrow e
  ·obtain ⟨e, rfl⟩ := hv; cases h
  ·have hv' : ∀ e, v ≠ .mrow e := fun e he => hv ⟨e, he⟩
   rw [inToks_skip hv']
   refine toks_rows ?_
   cases v with
   | mrow e => exact (hv ⟨e, rfl⟩).elim
   | _ => exact h

theorem rowsOK_get {d : Nat} {vs : List VC} {ts : List (Nat × Nat)} (h : rowsOK d vs ts = true) : nodupT ts = true ∧ (∀ x ∈ ts, x.1.beq d = false) ∧ (mutsOf vs = [] ∨ rowsOf vs = []) := by
 simp only [rowsOK, Bool.and_eq_true] at h
 obtain ⟨⟨h1, h2⟩, h3⟩ := h
 refine ⟨h1, fun x hx => by simpa using List.all_eq_true.1 h2 x hx, ?_⟩
 cases hm : mutsOf vs with
 | nil => exact .inl rfl
 | cons m ms =>
  cases hr : rowsOf vs with
  | nil => exact .inr rfl
  | cons r rs => rw [hm, hr] at h3; cases h3

theorem sem_call {R : Type} {o : Oper} {tm : Tm Γ} {bx : Bx Γ} {c : Call} {E : List (Ent Γ)} (hE : ∀ e ∈ E, EntOK P e) (h : o.op = .call c) {f : Operand} (hc : c.callee = .value f) {g d : Nat} {caps : List (Pt Γ)} (hf : ev tm f = .clo g caps) (hd : o.dst = some d)
  {K : AV Γ → Eff Γ → Option R} {r : R} (hk : entRun d bx ((c.args.toList.map fun x => ev tm x) ++ caps.map fun q => .p q) (c.args.toList.map tmpOf) g K E = some r) : ∃ v eff, K v eff = some r ∧ OpSem P o tm bx v eff := by
 obtain ⟨e, he, rfl, tms, cs, x, y, hnd, hro, htm, h1, hnor, h2, h3, h4⟩ := entRun_inv hk
 refine ⟨_, _, h4, ?_⟩
 obtain ⟨hres, ⟨fn, hfn, hname, hbody⟩, hcalls⟩ := hE e he
 have hts := inTs_of h1
 generalize hargs_ : ((c.args.toList.map fun x => ev tm x) ++ caps.map fun q => (.p q : AV Γ)) = args at *
 generalize hks_ : inKeys e.args args = ks at *
 obtain ⟨hro1, hro2, hkind⟩ := rowsOK_get hro
 generalize htk_ : inToks e.args args = ts at *
 generalize hfl_ : flatB ts e.ol = fl at *
 intro base S w0 a w μ hp next Q hn
 have hpf := hp.ops f (by rw [h]; simp [Op.operands, Call.operands, hc])
 rw [hf] at hpf
 obtain ⟨vs, ef, hvs⟩ := hpf
 have hargs0 : AVsRep base S μ w args ((c.args.map a.eval).toList ++ vs) := by
  rw [← hargs_]
  refine AVsRep.append ?_ ?_
  ·have : ∀ l : List Operand, (∀ x ∈ l, AVRep base S μ w (ev tm x) (a.eval x)) → AVsRep base S μ w (l.map fun x => ev tm x) (l.map a.eval) := by
    intro l
    induction l with
    | nil => intro _; trivial
    | cons x l ih => intro hh; exact ⟨hh x (by simp), ih fun y hy => hh y (by simp [hy])⟩
   rw [Array.toList_map]
   exact this _ fun x hx => hp.ops x (by rw [h]; simp [Op.operands, Call.operands, hc]; exact .inr (by simpa using hx))
  ·have : ∀ (qs : List (Pt Γ)) (vs : List Value), PtsRep base S μ w qs vs → AVsRep base S μ w (qs.map fun q => (.p q : AV Γ)) vs := by
    intro qs
    induction qs with
    | nil => intro vs hh; cases vs with
     | nil => trivial
     | cons _ _ => exact hh.elim
    | cons q qs ih => intro vs hh; cases vs with
     | nil => exact hh.elim
     | cons v vs => exact ⟨hh.1, ih vs hh.2⟩
   exact this caps vs hvs
 generalize hvl_ : (c.args.map a.eval).toList ++ vs = vals at *
 generalize hl_ : rowIn e.args args vals = l at *
 have hfl0 : fl = true → ts = [] ∧ e.ol.all LC.noRd = true := fun hh => by
  rw [← hfl_] at hh
  unfold flatB at hh
  split at hh
  ·exact ⟨rfl, hh⟩
  ·cases hh
 have hfl1 : fl = true → l = [] := fun hh => by
  rw [← hl_]
  exact rowIn_nil (by rw [htk_]; exact (hfl0 hh).1)
 have hrest : ∀ s T cs, bxGet (restBx ks bx) s = some (T, cs) → hasKey ks s = false ∧ BoxRep base S μ w s T cs := fun s T cs e => by
  rw [bxGet_restBx] at e
  cases hk : hasKey ks s with
  | true => rw [hk] at e; cases e
  | false => rw [hk] at e; exact ⟨rfl, hp.bx s T cs e⟩
 have hargs : AVsRep w.heap.size (viewS fl base S μ) (μv μ ks l) w (viewArgs fl (restBx ks bx) e.args args) vals := by
  rcases viewArgs_rep hfl1 hp.maps hp.maps.ρinj hrest hargs0 (vs := e.args) (fun s hs => by rw [← hks_]; exact hs) (fun d j hh => by rw [← hl_]; exact hh) rfl with hv | hv
  ·exact hv
  ·rw [hv] at h1; cases h1
 have hbx : ∀ s T cs, bxGet (viewBx ks bx) s = some (T, cs) → BoxRep w.heap.size (viewS fl base S μ) (μv μ ks l) w s T cs := fun s T cs e => by
  rw [bxGet_viewBx] at e
  cases hk : hasKey ks s with
  | false => rw [hk] at e; cases e
  | true =>
   rw [hk] at e
   obtain ⟨x, hx, ee⟩ := Option.map_eq_some_iff.1 e
   obtain ⟨T', cs'⟩ := x
   cases ee
   obtain ⟨g, cur, b1, b2, b3⟩ := hp.bx s _ cs' hx
   exact ⟨g, cur, by simp only [μv, hk, cond_true]; exact b1, b2, b3.hand⟩
 have hin : InOK w (μv μ ks l) ks ts l := ⟨hnd, hro1, fun s s' g e e' => hp.maps.ρinj s s' g (μv_ρ e).2 (μv_ρ e').2, fun s g e => hp.maps.ρnew s g (μv_ρ e).2, fun s g e => (μv_ρ e).1, fun d j g u e => ⟨(hp.maps.τnew d j g u (μv_τ e).2).1, fun s es => (hp.maps.τnew d j g u (μv_τ e).2).2 s (μv_ρ es).2⟩, fun d j d' j' g u u' e e' => hp.maps.τinj d j d' j' g u u' (μv_τ e).2 (μv_τ e').2, fun d j v e => (μv_τ e).1⟩
 have hlw : LwOK Γ w (μv μ ks l) := ⟨hp.gd.lw w hp.below, fun s g e => hp.gd.own (hp.own s g (μv_ρ e).2), fun d j g u e => hp.gd.town (hp.town d j g u (μv_τ e).2)⟩
 have hcall := hcalls (viewS fl base S μ) w (μv μ ks l) (viewBx ks bx) _ vals cs x y hlw (by rw [inKeys_view, hks_, inToks_view, htk_, rowIn_view, hl_]; exact hin) hbx h1 hnor h2 h3 hargs
 rw [inKeys_view, hks_] at hcall
 have hexec : (execOp a.eval o).run P w = .ok (.enter e.f vals.toArray) w := by
  have harr : (c.args.map a.eval) ++ vs.toArray = vals.toArray := by rw [← hvl_]; simp
  simp only [execOp, h, resolve, hc, ef, Deferred.ofValue, Sem.run_bind, Sem.run_pure, Result.andThen_ok, invoke, callFunc, run_program, hfn, hname, hbody, Bool.false_eq_true, if_false, Array.empty_append, harr]
 have hot : ∀ (i t : Nat), (c.args.toList.map tmpOf)[i]? = some (some t) → vals[i]? = some (a.eval (.tmp t)) := fun i t hi => by
  rw [List.getElem?_map] at hi
  obtain ⟨z, hz, hz2⟩ := Option.map_eq_some_iff.1 hi
  have hz3 : z = .tmp t := by
   unfold tmpOf at hz2
   split at hz2
   ·cases hz2; rfl
   ·cases hz2
  subst hz3
  rw [← hvl_, List.getElem?_append_left (by simpa using (List.getElem?_eq_some_iff.1 hz).1), Array.toList_map, List.getElem?_map, hz]
  rfl
 unfold Oper.wp
 rw [hexec, Oper.upon_enter]
 refine hcall.mono fun en w' hh => ?_
 obtain ⟨v, rfl, hB, hr⟩ := hh
 have hr : ResOK Γ (viewS fl base S μ) (μv μ ks l) ks w w' e.res e.args args vals y v := by
  obtain ⟨μc, avs, ys, cs1, os, us, q1, q2, q3, q4, q5, q6, q7⟩ := hr
  exact ⟨μc, avs, ys, cs1, os, us, q1, q2, q3, q4, q5, RowOut_view q6, q7⟩
 obtain ⟨μ', g1, g2, g3, g4, g5, g6, g7, g8⟩ := res_back hres hp.maps hp.le hB (fun hh => (hfl0 hh).2) hkind (fun d j hh => hand_own hargs0 d j (by rw [hl_]; exact hh)) (fun d j g hh hg us μc hro => hand_out hargs0 hro d j g (by rw [hl_]; exact hh) hg) hr d (fun d' j hh => by
  have := hro2 (d', j) (by rw [← htk_]; exact hand_in (ys := vals) (by rw [hl_]; exact hh))
  cases hb : d.beq d' with
  | false => rfl
  | true => rw [Nat.eq_of_beq_eq_true hb, Nat.beq_refl] at this; cases this)
 have hbel : Bel base w0 w' := ⟨hB.os.trans hp.below.os, hB.tape.trans hp.below.tape, hB.output.trans hp.below.output, Nat.le_trans hp.below.size hB.size, fun k hk hs hh => by
  refine (hB.block k (Nat.lt_of_lt_of_le hk hp.le) (fun s es => ?_) fun ⟨d', j, u, et⟩ => ?_).trans (hp.below.block k hk hs hh)
  ·rcases hp.own s k (μv_ρ (l := l) es).2 with ⟨_, e⟩ | e | ⟨_, s', e⟩
   ·omega
   ·exact hs s e
   ·exact hs s' e
  ·rcases hp.town d' j k u (μv_τ et).2 with e | e
   ·omega
   ·exact hh e⟩
 refine hn v w' μ' ⟨g1, hbel, fun s g e => .inl (by rw [← g6]; exact e), fun d' j g u e => ?_, ?_, g3, fun s hs => .inl (by rw [g6]; exact hs), fun d' j hn' => (g7 d' j hn').imp id fun e => by rw [hd, e], fun T cs' ee => ?_, fun s off cs' ee => ?_, fun fr l ee => ?_, fun _ _ _ _ _ ee => ?_, fun fr l ee => ?_⟩
 ·rcases g8 d' j g u e with e | e
  ·exact .inl (Nat.le_trans hp.le e)
  ·exact hp.town d' j g u e
 ·rw [hd, callEff_q, callEff_i g4]
  refine g2.mono fun d' j hh => ?_
  rw [callEff_p hkind]
  rw [Bool.or_eq_true] at hh ⊢
  rcases hh with hh | hh
  ·exact .inl hh
  ·have hmem : (d', j) ∈ ts := by rw [← htk_]; exact hand_in (ys := vals) (by rw [hl_]; exact hh)
   refine .inr ?_
   have hm0 : mutsOf e.args = [] := by
    rcases hkind with hk | hk
    ·exact hk
    ·rw [← htk_, toks_rows hk] at hmem; cases hmem
   have := zip_has (g5 hm0) htm (d := d') (j := j) (by rw [htk_]; exact hmem)
   rw [htk_] at this
   rw [hm0]
   cases ts with
   | nil => cases hmem
   | cons t ts => exact this
 ·unfold callEff at ee
  split at ee
  ·split at ee
   ·cases hh : e.res.ls.any LC.isRow <;> simp [hh] at ee
   ·cases ee
  ·cases ee
 ·unfold callEff at ee
  split at ee
  ·split at ee
   ·cases hh : e.res.ls.any LC.isRow <;> simp [hh] at ee
   ·cases ee
  ·cases ee
 ·unfold callEff at ee
  split at ee
  ·split at ee
   ·cases hh : e.res.ls.any LC.isRow <;> simp [hh] at ee
   ·cases ee
  ·cases ee
   exact outs_box g4 hts
 ·unfold callEff at ee
  split at ee
  ·split at ee
   ·cases hh : e.res.ls.any LC.isRow <;> simp [hh] at ee
   ·cases ee
  ·cases ee
 ·unfold callEff at ee
  split at ee
  ·rename_i hm0
   split at ee
   ·cases hh : e.res.ls.any LC.isRow <;> simp [hh] at ee
   ·cases ee
    have := zip_rows (ev0 := a.eval) (g5 hm0) htm hot
    rw [htk_] at this
    exact this
  ·cases ee

end

section
variable {Γ : Ctx} {P : Program}

theorem sem_append (C : CtxOK P Γ) {o : Oper} {tm : Tm Γ} {bx : Bx Γ} {c : Call} (h : o.op = .call c) (hc : c.callee = .builtin .append) {x y : Operand} {t d e bytes : Nat} (ha : c.args.toList = [x, y]) (hT : c.argTypes.toList = [t, t]) (hd : o.dst = some d)
  (ht : Γ.td t = .sl e bytes) {xs ys : List (Γ.kd e).α} {ow ow' : Own} {tk : Option (Nat × Nat)} (hx : coerce t (ev tm x) = .f (.c (.row e xs ow))) (hy : coerce t (ev tm y) = .f (.c (.row e ys ow'))) (ho : tokO ow = some tk)
  (hb : (xs.length + ys.length) * bytes ≤ 140737488355328) : OpSem P o tm bx (.f (.c (.row e (xs ++ ys) (.tok d 0)))) (.app tk) := by
 have ea : c.args = #[x, y] := by simpa using congrArg List.toArray ha
 have et : c.argTypes = #[t, t] := by simpa using congrArg List.toArray hT
 obtain ⟨ii, ie, z, hu, hi1, _, _, hie, hiz, hsz, hby, hzs, hb0, _⟩ := td_sl C ht
 intro base S w0 a w μ hp next Q hn
 have h1 := coerce_rep (t := t) (hp.ops x (by rw [h]; simp [Op.operands, Call.operands, hc, ea]))
 have h2 := coerce_rep (t := t) (hp.ops y (by rw [h]; simp [Op.operands, Call.operands, hc, ea]))
 rw [hx] at h1
 rw [hy] at h2
 obtain ⟨v, w', nv, hr, H, hv⟩ := app_run (Γ := Γ) (P := P) (Γ.kd e).K hu hie hiz hsz hby hzs hb0 hp.maps hp.le ho h1 h2 hb d o.type
 have hexec : (execOp a.eval o).run P w = .ok (.value v) w' := by
  simp only [execOp, h, resolve, hc, ea, et, invoke, builtin, Sem.run_bind, Sem.run_pure, Result.andThen_ok, List.map_toArray, List.map_cons, List.map_nil, hr]
 unfold Oper.wp
 rw [hexec]
 refine hn v w' (mvTok μ d tk nv) ⟨H.maps hp.maps, H.below w0 hp.below hp.town, fun s g h => .inl h, H.town hp.town, ?_, hv, fun s hs => .inl hs, fun d' j' hn' => ?_, fun _ _ e => (by cases e), fun _ _ _ e => (by cases e), fun _ _ e => (by cases e), fun _ _ _ _ _ e => (by cases e), fun _ _ e => (by cases e)⟩
 ·rw [hd]
  exact H.ext
 ·cases he : (mvTok μ d tk nv).τ d' j' with
  | none => exact .inl rfl
  | some v =>
   rcases mv_cases (Γ := Γ) he with ⟨e1, _, _⟩ | ⟨_, e1⟩
   ·exact .inr (by rw [hd, e1])
   ·rw [hn'] at e1; cases e1

theorem sem_append_own (C : CtxOK P Γ) {o : Oper} {tm : Tm Γ} {bx : Bx Γ} {c : Call} (h : o.op = .call c) (hc : c.callee = .builtin .append) {x y : Operand} {t d e bytes : Nat} (ha : c.args.toList = [x, y]) (hT : c.argTypes.toList = [t, t]) (hd : o.dst = some d)
  (ht : Γ.td t = .sl e bytes) {xs ys : List (Γ.kd e).α} {ow' : Own} {dd j : Nat} (hx : coerce t (ev tm x) = .f (.c (.own e xs dd j))) (hy : coerce t (ev tm y) = .f (.c (.row e ys ow')))
  (hb : (xs.length + ys.length) * bytes ≤ 140737488355328) : OpSem P o tm bx (.f (.c (.own e (xs ++ ys) d 0))) (.app (some (dd, j))) := by
 have ea : c.args = #[x, y] := by simpa using congrArg List.toArray ha
 have et : c.argTypes = #[t, t] := by simpa using congrArg List.toArray hT
 obtain ⟨ii, ie, z, hu, hi1, _, _, hie, hiz, hsz, hby, hzs, hb0, _⟩ := td_sl C ht
 intro base S w0 a w μ hp next Q hn
 have h1 := coerce_rep (t := t) (hp.ops x (by rw [h]; simp [Op.operands, Call.operands, hc, ea]))
 have h2 := coerce_rep (t := t) (hp.ops y (by rw [h]; simp [Op.operands, Call.operands, hc, ea]))
 rw [hx] at h1
 rw [hy] at h2
 obtain ⟨v, w', nv, hr, H, hv⟩ := app_own (Γ := Γ) (P := P) hu hie hiz hsz hby hzs hb0 hp.maps hp.le h1 h2 hb d o.type
 have hexec : (execOp a.eval o).run P w = .ok (.value v) w' := by
  simp only [execOp, h, resolve, hc, ea, et, invoke, builtin, Sem.run_bind, Sem.run_pure, Result.andThen_ok, List.map_toArray, List.map_cons, List.map_nil, hr]
 unfold Oper.wp
 rw [hexec]
 refine hn v w' (mvTok μ d (some (dd, j)) nv) ⟨H.maps hp.maps, H.below w0 hp.below hp.town, fun s g h => .inl h, H.town hp.town, ?_, hv, fun s hs => .inl hs, fun d' j' hn' => ?_, fun _ _ e => (by cases e), fun _ _ _ e => (by cases e), fun _ _ e => (by cases e), fun _ _ _ _ _ e => (by cases e), fun _ _ e => (by cases e)⟩
 ·rw [hd]
  exact H.ext
 ·cases he : (mvTok μ d (some (dd, j)) nv).τ d' j' with
  | none => exact .inl rfl
  | some v =>
   rcases mv_cases (Γ := Γ) he with ⟨e1, _, _⟩ | ⟨_, e1⟩
   ·exact .inr (by rw [hd, e1])
   ·rw [hn'] at e1; cases e1

theorem appLen_lt {α β : Type} {xs : List α} {ys : List β} {n : Nat} (h : appLen xs ys < n) : xs.length + ys.length ≤ n := by
 unfold appLen at h
 split at h
 ·exact h
 ·exact Nat.le_of_lt h

theorem appLen_of {α β : Type} {xs : List α} {ys : List β} {n : Nat} (h : xs.length + ys.length < n) : appLen xs ys < n := by
 unfold appLen
 split
 ·simp at h; omega
 ·exact h

theorem appendAV_inv {R : Type} {d e0 bytes : Nat} (hb0 : 0 < bytes) {x y : AV Γ} {K : AV Γ → Eff Γ → Option R} {r : R} (h : appendAV d e0 bytes x y K = some r) :
  (∃ (xs ys : List (Γ.kd e0).α) (ow ow' : Own) (tk : Option (Nat × Nat)), x = .f (.c (.row e0 xs ow)) ∧ y = .f (.c (.row e0 ys ow')) ∧ tokO ow = some tk ∧ (xs.length + ys.length) * bytes ≤ 140737488355328 ∧ K (.f (.c (.row e0 (xs ++ ys) (.tok d 0)))) (.app tk) = some r) ∨
  ∃ (xs ys : List (Γ.kd e0).α) (dd j : Nat) (ow' : Own), x = .f (.c (.own e0 xs dd j)) ∧ y = .f (.c (.row e0 ys ow')) ∧ (xs.length + ys.length) * bytes ≤ 140737488355328 ∧ K (.f (.c (.own e0 (xs ++ ys) d 0))) (.app (some (dd, j))) = some r := by
 unfold appendAV at h
 split at h
 ·rename_i e xs ow e' ys ow'
  cases he : e.beq e0 with
  | false => simp [he] at h
  | true =>
   obtain rfl := Nat.eq_of_beq_eq_true he
   simp only [he, Bool.not_true, cond_false] at h
   split at h
   ·rename_i hee
    subst hee
    split at h
    ·rename_i tk htk
     split at h
     ·rename_i hlt
      exact .inl ⟨xs, ys, ow, ow', tk, rfl, rfl, htk, Nat.mul_le_of_le_div _ _ _ (appLen_lt hlt), h⟩
     ·cases h
    ·cases h
   ·cases h
 ·rename_i e xs dd j e' ys ow'
  cases he : e.beq e0 with
  | false => simp [he] at h
  | true =>
   obtain rfl := Nat.eq_of_beq_eq_true he
   simp only [he, Bool.not_true, cond_false] at h
   split at h
   ·rename_i hee
    subst hee
    split at h
    ·rename_i hlt
     exact .inr ⟨xs, ys, dd, j, ow', rfl, rfl, Nat.mul_le_of_le_div _ _ _ (appLen_lt hlt), h⟩
    ·cases h
   ·cases h
 ·cases h

theorem callAV_sound {R : Type} (C : CtxOK P Γ) {E : List (Ent Γ)} (hE : ∀ e ∈ E, EntOK P e) {o : Oper} {tm : Tm Γ} {bx : Bx Γ} {c : Call} (hop : o.op = .call c) {K : AV Γ → Eff Γ → Option R} {r : R} (h : callAV E tm bx o c K = some r) :
  ∃ v eff, K v eff = some r ∧ (effOK bx eff = true → OpSem P o tm bx v eff) := by
 unfold callAV at h
 split at h
 ·rename_i f hc
  split at h
  ·rename_i g caps hf
   split at h
   ·rename_i d hd
    obtain ⟨v, eff, h1, h2⟩ := sem_call hE hop hc hf hd h
    exact ⟨v, eff, h1, fun _ => h2⟩
   ·cases h
  ·cases h
 ·rename_i hc
  split at h
  ·rename_i x t ha hT
   obtain ⟨v, h1, h2⟩ := sem_len C hop hc ha hT h
   exact ⟨v, .none, h1, fun _ => h2⟩
  ·cases h
 ·rename_i hc
  split at h
  ·rename_i x y ha
   obtain ⟨v, h1, h2⟩ := sem_mm (mx := true) hop hc ha h
   exact ⟨v, .none, h1, fun _ => h2⟩
  ·cases h
 ·rename_i hc
  split at h
  ·rename_i x y ha
   obtain ⟨v, h1, h2⟩ := sem_mm (mx := false) hop hc ha h
   exact ⟨v, .none, h1, fun _ => h2⟩
  ·cases h
 ·rename_i hc
  split at h
  ·rename_i x y t t' d ha hT hd
   cases htt : t.beq t' with
   | false => simp [htt] at h
   | true =>
    obtain rfl := Nat.eq_of_beq_eq_true htt
    simp only [htt, cond_true] at h
    split at h
    ·rename_i e bytes htd
     obtain ⟨_, _, _, _, _, _, _, _, _, _, _, _, hb0, _⟩ := td_sl C htd
     rcases appendAV_inv hb0 h with ⟨xs, ys, ow, ow', tk, e1, e2, e3, e4, e5⟩ | ⟨xs, ys, dd, j, ow', e1, e2, e4, e5⟩
     ·exact ⟨_, _, e5, fun _ => sem_append C hop hc ha hT hd htd e1 e2 e3 e4⟩
     ·exact ⟨_, _, e5, fun _ => sem_append_own C hop hc ha hT hd htd e1 e2 e4⟩
    ·cases h
  ·cases h
 ·cases h

theorem evalOp_sound {R : Type} (C : CtxOK P Γ) {E : List (Ent Γ)} (hE : ∀ e ∈ E, EntOK P e) {o : Oper} {tm : Tm Γ} {bx : Bx Γ} {K : AV Γ → Eff Γ → Option R} {r : R} (h : evalOp E tm bx o K = some r) :
  ∃ v eff, K v eff = some r ∧ (effOK bx eff = true → OpSem P o tm bx v eff) := by
 have h0 := h
 unfold evalOp at h
 split at h
 ·rename_i x hop; exact ⟨_, _, h, fun _ => sem_move (.inl hop)⟩
 ·rename_i x hop; exact ⟨_, _, h, fun _ => sem_move (.inr hop)⟩
 ·rename_i c x y hop
  obtain ⟨b, hb, hh⟩ := onBool_inv h
  refine ⟨if b = true then ev tm x else ev tm y, .none, ?_, fun _ => sem_pick hop hb⟩
  cases b <;> simpa using hh
 ·rename_i t hop
  split at h
  ·rename_i cs d hz hd; exact ⟨_, _, h, fun _ => sem_alloc C hop hd hz⟩
  ·cases h
 ·rename_i t x hop
  split at h
  ·rename_i fv d hx hd
   cases hok : fv.ok with
   | false => simp [hok] at h
   | true => simp only [hok, cond_true] at h; exact ⟨_, _, h, fun _ => sem_box hop hd hx hok⟩
  ·cases h
 ·rename_i t parts hop
  split at h
  ·rename_i sz zs fs htd
   split at h
   ·rename_i cs hf; exact ⟨_, _, h, fun _ => sem_build_st C hop htd hf⟩
   ·cases h
  ·rename_i n e esz zs htd
   split at h
   ·rename_i cs hf; exact ⟨_, _, h, fun _ => sem_build_ar C hop htd hf⟩
   ·cases h
  ·cases h
 ·rename_i t len parts hop
  split at h
  ·rename_i e b htd
   split at h
   ·rename_i cs hf
    split at h
    ·rename_i vs hv
     split at h
     ·rename_i xs hd
      cases hle : (len * (Γ.kd e).K.sz).ble 16777216 with
      | false => simp [hle] at h
      | true => simp only [hle, cond_true] at h; exact ⟨_, _, h, fun _ => sem_buildSlice C hop htd hf hv hd (Nat.le_of_ble_eq_true hle)⟩
     ·cases h
    ·cases h
   ·cases h
  ·cases h
 ·rename_i t x hop
  obtain ⟨v, h1, h2⟩ := sem_load C hop h0
  exact ⟨v, _, h1, fun _ => h2⟩
 ·rename_i t x y hop
  split at h
  ·rename_i s off fv hx hy
   cases hb : ((Γ.td t).known.and ((fvCells fv).all Cell.one)).and ((fvCells fv).length.beq (Γ.td t).size) with
   | false => simp [hb] at h
   | true =>
    simp only [hb, cond_true] at h
    simp only [Bool.and_eq_true] at hb
    exact ⟨_, _, h, fun heff => sem_store C hop hx hy hb.1.1 hb.1.2 (Nat.eq_of_beq_eq_true hb.2) heff⟩
  ·rename_i e xs d j i off fv hx hy
   cases hb : ((Γ.td t).known.and ((fvCells fv).all Cell.one)).and (((fvCells fv).length.beq (Γ.td t).size).and ((off + (fvCells fv).length).ble (Γ.kd e).K.sz)) with
   | false => simp [hb] at h
   | true =>
    simp only [hb, cond_true] at h
    simp only [Bool.and_eq_true] at hb
    split at h
    ·rename_i us hus
     split at h
     ·rename_i v hv
      exact ⟨_, _, h, fun _ => sem_put C hop hx hy hb.1.1 hb.1.2 (Nat.eq_of_beq_eq_true hb.2.1) (Nat.le_of_ble_eq_true hb.2.2) hus hv⟩
     ·cases h
    ·cases h
  ·cases h
 ·rename_i x hop
  split at h
  ·cases h
  ·rename_i q hun hx; exact ⟨_, _, h, fun _ => by have := sem_nilCheck (P := P) (bx := bx) hop (.inl ⟨q, hx⟩) (by rw [hx]; intro e; cases e; exact hun rfl); rwa [hx] at this⟩
  ·rename_i f caps hx; exact ⟨_, _, h, fun _ => by have := sem_nilCheck (P := P) (bx := bx) hop (.inr ⟨f, caps, hx⟩) (by rw [hx]; simp); rwa [hx] at this⟩
  ·cases h
 ·rename_i op t x y t' hop
  obtain ⟨v, h1, h2⟩ := sem_binOp C hop h
  exact ⟨v, _, h1, fun _ => h2⟩
 ·rename_i op t x hop
  obtain ⟨v, h1, h2⟩ := sem_unOp hop h
  exact ⟨v, _, h1, fun _ => h2⟩
 ·rename_i src dst x hop
  split at h
  ·rename_i e xs ow htd hx
   obtain ⟨v, h1, h2⟩ := sem_convert_str (P := P) (bx := bx) C hop htd hx (K := fun v => K v .none) h
   exact ⟨v, _, h1, fun _ => h2⟩
  ·rename_i k k' n htd hx
   split at h
   ·rename_i k'' hts
    exact ⟨_, _, h, fun _ => sem_convert_int C hop htd ⟨_, (td_int C hts).1⟩ hx⟩
   ·cases h
  ·cases h
 ·rename_i t x i hop
  split at h
  ·rename_i sz zs fs cs htd hx
   split at h
   ·rename_i f hf
    obtain ⟨v, h1, h2⟩ := sem_field C hop htd hx hf h
    exact ⟨v, _, h1, fun _ => h2⟩
   ·cases h
  ·cases h
 ·rename_i t x i hop
  split at h
  ·rename_i sz zs fs htd
   split at h
   ·rename_i f s o' hf hx; exact ⟨_, _, h, fun _ => sem_fieldAddr C hop htd hx hf (by simp) ptq_box⟩
   ·rename_i f cs hf hx; exact ⟨_, _, h, fun _ => sem_fieldAddr C hop htd hx hf (by simp) ptq_ref⟩
   ·rename_i f s o' e xs i hf hx; exact ⟨_, _, h, fun _ => sem_fieldAddr C hop htd hx hf (by simp) ptq_ix⟩
   ·rename_i f e xs d j i o' hf hx; exact ⟨_, _, h, fun _ => sem_fieldAddr C hop htd hx hf (by simp) ptq_el⟩
   ·cases h
  ·cases h
 ·rename_i t x i hop
  split at h
  ·rename_i e' b e xs ow n htd hx hi
   cases hee : e.beq e' with
   | false => simp [hee] at h
   | true =>
    simp only [hee, cond_true] at h
    by_cases h1 : 0 ≤ n
    ·by_cases h2 : n < (xs.length : Int)
     ·rw [if_pos h1, if_pos h2] at h; exact ⟨_, _, h, fun _ => sem_indexAddr_sl C hop htd hee hx hi h1 h2⟩
     ·rw [if_pos h1, if_neg h2] at h; cases h
    ·rw [if_neg h1] at h; cases h
  ·rename_i e' b e xs d j n htd hx hi
   cases hee : e.beq e' with
   | false => simp [hee] at h
   | true =>
    simp only [hee, cond_true] at h
    by_cases h1 : 0 ≤ n
    ·by_cases h2 : n < (xs.length : Int)
     ·rw [if_pos h1, if_pos h2] at h; exact ⟨_, _, h, fun _ => sem_indexAddr_own C hop htd hee hx hi h1 h2⟩
     ·rw [if_pos h1, if_neg h2] at h; cases h
    ·rw [if_neg h1] at h; cases h
  ·rename_i len e esz zs s off n htd hx hi
   cases hcn : isConst i with
   | true =>
    simp only [hcn, cond_true] at h
    by_cases h1 : 0 ≤ n
    ·by_cases h2 : n < (len : Int)
     ·rw [if_pos h1, if_pos h2] at h; exact ⟨_, _, h, fun _ => sem_indexAddr_arc C hop htd hx hi h1 h2⟩
     ·rw [if_pos h1, if_neg h2] at h; cases h
    ·rw [if_neg h1] at h; cases h
   | false =>
   simp only [hcn, cond_false] at h
   split at h
   ·rename_i T cs hb
    cases hT : (Γ.td T).isArr with
    | false => simp [hT] at h
    | true =>
     simp only [hT, cond_true] at h
     split at h
     ·rename_i vs hv
      split at h
      ·rename_i xs hd
       by_cases h1 : 0 ≤ n
       ·by_cases h2 : n < (len : Int)
        ·rw [if_pos h1, if_pos h2] at h; exact ⟨_, _, h, fun _ => sem_indexAddr_ar C hop htd hx hi hb hT hv hd h1 h2⟩
        ·rw [if_pos h1, if_neg h2] at h; cases h
       ·rw [if_neg h1] at h; cases h
      ·cases h
     ·cases h
   ·cases h
  ·cases h
 ·rename_i t x i hop
  split at h
  ·rename_i s n htd hx hi
   by_cases h1 : 0 ≤ n
   ·by_cases h2 : n < (s.size : Int)
    ·rw [if_pos h1, if_pos h2] at h; exact ⟨_, _, h, fun _ => sem_index_str C hop htd hx hi h1 h2⟩
    ·rw [if_pos h1, if_neg h2] at h; cases h
   ·rw [if_neg h1] at h; cases h
  ·rename_i len e esz zs cs n htd hx hi
   split at h
   ·rename_i vs hv
    split at h
    ·rename_i xs hd
     by_cases h1 : 0 ≤ n
     ·by_cases h2 : n < (len : Int)
      ·rw [if_pos h1, if_pos h2] at h
       obtain ⟨v, e1, e2⟩ := sem_index_ar C hop htd hx hi hv hd h1 h2 h
       exact ⟨v, _, e1, fun _ => e2⟩
      ·rw [if_pos h1, if_neg h2] at h; cases h
     ·rw [if_neg h1] at h; cases h
    ·cases h
   ·cases h
  ·cases h
 ·rename_i t x lo hi mx hop
  split at h
  ·obtain ⟨v, h1, h2⟩ := sem_cut C hop h
   exact ⟨v, _, h1, fun _ => h2⟩
  ·cases h
 ·rename_i x i hop
  split at h
  ·rename_i l hx
   split at h
   ·rename_i v hv; exact ⟨_, _, h, fun _ => sem_extract hop hx hv⟩
   ·cases h
  ·cases h
 ·rename_i t l c hop
  split at h
  ·rename_i e bytes d n htd hd hlc hi
   by_cases h1 : 0 ≤ n
   ·by_cases h2 : n.toNat ≤ 281474976710656 / bytes
    ·rw [if_pos h1, if_pos h2] at h; exact ⟨_, _, h, fun _ => sem_makeSlice C hop htd hd hlc hi h1 h2⟩
    ·rw [if_pos h1, if_neg h2] at h; cases h
   ·rw [if_neg h1] at h; cases h
  ·cases h
 ·rename_i f first captured hop
  split at h
  ·rename_i qs hf hq; exact ⟨_, _, h, fun _ => sem_makeFunc hop hf hq⟩
  ·cases h
 ·rename_i c hop; exact callAV_sound C hE hop h
 ·cases h

end

section
variable {Γ : Ctx} {P : Program}

structure Inv (base : Nat) (S : Nat → Nat → Prop) (w0 : W0) (n : Nt) (st : St Γ) (a : Act) (w : World) (μ : Mp) : Prop where
 maps : MapsOK base μ w
 below : Bel base w0 w
 own : ∀ s g, μ.ρ s = some g → OwnBox base w0 s g
 keys : ∀ s g, w0.ρ s = some g → n.n ≤ s
 le : base ≤ w.heap.size
 tm : ∀ t, AVRep base S μ w (tmGet st.tm t) (a.eval (.tmp t))
 bx : ∀ s T cs, bxGet st.bx s = some (T, cs) → BoxRep base S μ w s T cs
 dom : ∀ s, bxGet st.bx s = none → μ.ρ s = none
 defers : a.defers = n.df
 size : a.tmps.size = n.n
 town : ∀ d j g u, μ.τ d j = some (g, u) → OwnTok base w0 g
 fix : ∀ t v, w0.fix t = some v → hasKey n.fx t = true ∧ a.eval (.tmp t) = v
 gd : Good Γ base w0

variable {base : Nat} {S : Nat → Nat → Prop} {w0 : W0} {n : Nt}

theorem ev_rep {tm : Tm Γ} {a : Act} {μ : Mp} {w : World} (h : ∀ t, AVRep base S μ w (tmGet tm t) (a.eval (.tmp t))) (x : Operand) : AVRep base S μ w (ev tm x) (a.eval x) := by
 cases x with
 | tmp t => exact fnClo_rep (h t)
 | const v => exact constAV_rep v
 | global g => trivial
 | func f => exact ⟨[], rfl, trivial⟩

theorem Inv.pre {st : St Γ} {a : Act} {w : World} {μ : Mp} (h : Inv base S w0 n st a w μ) (o : Oper) : OpPre base S w0 o st.tm st.bx a w μ :=
 ⟨h.maps, h.below, h.own, h.town, h.le, fun x _ => ev_rep h.tm x, h.bx, h.gd⟩

theorem tmGet_map (f : AV Γ → AV Γ) (hf : f .u = .u) : ∀ (tm : Tm Γ) (t : Nat), tmGet (tm.map fun x => (x.1, f x.2)) t = f (tmGet tm t)
 | [], _ => hf.symm
 | (i, a) :: r, t => by
  simp only [List.map_cons, tmGet]
  cases Nat.beq i t with
  | true => rfl
  | false => exact tmGet_map f hf r t

theorem bxGet_set : ∀ (bx : Bx Γ) (s s' : Nat) (cs : List (Cell Γ)), bxGet (bxSet bx s cs) s' = bif s.beq s' then (bxGet bx s).map (fun x => (x.1, cs)) else bxGet bx s'
 | [], s, s', cs => by cases h : s.beq s' <;> simp [bxSet, bxGet, h]
 | (i, T, a) :: r, s, s', cs => by
  simp only [bxSet]
  cases hi : Nat.beq i s with
  | true =>
   obtain rfl := Nat.eq_of_beq_eq_true hi
   simp only [cond_true, bxGet, hi]
   cases hs : Nat.beq i s' with
   | true => rfl
   | false => rfl
  | false =>
   simp only [cond_false, bxGet, hi]
   cases hs : Nat.beq i s' with
   | true =>
    obtain rfl := Nat.eq_of_beq_eq_true hs
    have : s.beq i = false := by
     cases h : s.beq i with
     | false => rfl
     | true => rw [Nat.eq_of_beq_eq_true h, Nat.beq_refl] at hi; cases hi
    simp [this]
   | false =>
    simp only [cond_false]
    exact bxGet_set r s s' cs

theorem bxHas_get {bx : Bx Γ} {d : Nat} (h : bxHas bx d = false) : bxGet bx d = none := by
 induction bx with
 | nil => rfl
 | cons x bx ih =>
  obtain ⟨i, a⟩ := x
  simp only [bxHas, List.any_cons, Bool.or_eq_false_iff] at h
  simp only [bxGet]
  have h1 : Nat.beq i d = false := h.1
  rw [h1]
  exact ih h.2

theorem put_eval {a : Act} {d t : Nat} {y : Value} (hd : d < a.tmps.size) : (a.put (some d) y).eval (.tmp t) = if t = d then y else a.eval (.tmp t) := by
 simp only [Act.put, Act.eval, Array.getD_eq_getD_getElem?]
 by_cases h : t = d
 ·subst h; simp [hd]
 ·rw [if_neg h, Array.getElem?_setIfInBounds_ne (Ne.symm h)]

theorem noPt_id {q : Nat → Bool} {μ : Mp} {w : World} (hq : ∀ s, q s = true → μ.ρ s = none) {x : AV Γ} {y : Value} (h : AVRep base S μ w x y) : noPt q q x = x := by
 have key : ∀ (p : Pt Γ) (v : Value), PtRep base S μ w p v → ptIn q q p = false := by
  intro p v hp
  cases p with
  | box s o =>
   obtain ⟨g, hg, _⟩ := hp
   cases hs : q s with
   | false => exact hs
   | true => rw [hq s hs] at hg; cases hg
  | ref cs => rfl
  | el e xs d j i o => rfl
  | un => rfl
  | ix s o e xs i =>
   obtain ⟨g, _, _, _, hg, _⟩ := hp
   cases hs : q s with
   | false => exact hs
   | true => rw [hq s hs] at hg; cases hg
 cases x with
 | p p => simp only [noPt, key p y h, cond_false]
 | clo f qs =>
  obtain ⟨vs, rfl, hr⟩ := h
  have : ∀ (qs : List (Pt Γ)) (vs : List Value), PtsRep base S μ w qs vs → qs.any (ptIn q q) = false := by
   intro qs
   induction qs with
   | nil => intro _ _; rfl
   | cons p qs ih => intro vs hr; cases vs with
    | nil => exact hr.elim
    | cons v vs => simp [key p v hr.1, ih vs hr.2]
  simp only [noPt, this qs vs hr, cond_false]
 | _ => rfl

theorem noIx_id {s T : Nat} {cs : List (Cell Γ)} {μ : Mp} {w : World} (hb : BoxRep base S μ w s T cs) (hT : (Γ.td T).isArr = false) {x : AV Γ} {y : Value} (h : AVRep base S μ w x y) : noPt (fun _ => false) (fun z => s.beq z) x = x := by
 obtain ⟨g, cur, h1, h2, _⟩ := hb
 have key : ∀ (p : Pt Γ) (v : Value), PtRep base S μ w p v → ptIn (fun _ => false) (fun z => s.beq z) p = false := by
  intro p v hp
  cases p with
  | box s o => rfl
  | ref cs => rfl
  | el e xs d j i o => rfl
  | un => rfl
  | ix s' o e xs i =>
   obtain ⟨g', _, cur', T', hg, hh, hT', _⟩ := hp
   show s.beq s' = false
   cases hs : s.beq s' with
   | false => rfl
   | true =>
    obtain rfl := Nat.eq_of_beq_eq_true hs
    rw [h1] at hg
    injection hg with hg
    subst hg
    rw [h2] at hh
    injection hh with hh
    injection hh with _ hh
    subst hh
    rw [hT] at hT'
    cases hT'
 cases x with
 | p p => simp only [noPt, key p y h, cond_false]
 | clo f qs =>
  obtain ⟨vs, rfl, hr⟩ := h
  have : ∀ (qs : List (Pt Γ)) (vs : List Value), PtsRep base S μ w qs vs → qs.any (ptIn (fun _ => false) (fun z => s.beq z)) = false := by
   intro qs
   induction qs with
   | nil => intro _ _; rfl
   | cons p qs ih => intro vs hr; cases vs with
    | nil => exact hr.elim
    | cons v vs => simp [key p v hr.1, ih vs hr.2]
  simp only [noPt, this qs vs hr, cond_false]
 | _ => rfl


def or2 (p q : Nat → Nat → Bool) : Nat → Nat → Bool := fun d j => (p d j).or (q d j)

theorem roCell_or (p q : Nat → Nat → Bool) (c : Cell Γ) : roCell q (roCell p c) = roCell (or2 p q) c := by
 cases c with
 | row e xs o =>
  cases o with
  | tok d j =>
   simp only [roCell, or2]
   cases hp : p d j <;> simp [hp]
  | _ => rfl
 | own e xs d j =>
  simp only [roCell, or2]
  cases hp : p d j <;> simp [hp, roCell]
 | _ => rfl
theorem roCells_or (p q : Nat → Nat → Bool) (cs : List (Cell Γ)) : (cs.map (roCell p)).map (roCell q) = cs.map (roCell (or2 p q)) := by
 rw [List.map_map]; congr 1; funext c; exact roCell_or p q c
theorem roFV_or (p q : Nat → Nat → Bool) (x : FV Γ) : roFV q (roFV p x) = roFV (or2 p q) x := by
 cases x with
 | c x => simp only [roFV, roCell_or]
 | agg cs => simp only [roFV, roCells_or]
theorem roPt_or (p q : Nat → Nat → Bool) (x : Pt Γ) : roPt q (roPt p x) = roPt (or2 p q) x := by
 cases x with
 | ref cs => simp only [roPt, roCells_or]
 | el e xs d j i o =>
  simp only [roPt, or2]
  cases hp : p d j <;> simp [hp, roPt]
 | _ => rfl
theorem roAV_or (p q : Nat → Nat → Bool) (x : AV Γ) : roAV q (roAV p x) = roAV (or2 p q) x := by
 cases x with
 | f x => simp only [roAV, roFV_or]
 | tup l => simp only [roAV, List.map_map]; congr 2; funext x; exact roFV_or p q x
 | p x => simp only [roAV, roPt_or]
 | clo f qs => simp only [roAV, List.map_map]; congr 2; funext x; exact roPt_or p q x
 | u => rfl

theorem St.ro_or (p q : Nat → Nat → Bool) (st : St Γ) : (st.ro p).ro q = st.ro (or2 p q) := by
 simp only [St.ro, List.map_map]
 congr 2
 ·funext x; simp only [Function.comp, roAV_or]
 ·funext x; simp only [Function.comp, roCells_or]

theorem ro_tm (p : Nat → Nat → Bool) (st : St Γ) (t : Nat) : tmGet (st.ro p).tm t = roAV p (tmGet st.tm t) := tmGet_map _ rfl _ _
theorem ro_bx (p : Nat → Nat → Bool) (st : St Γ) (s : Nat) : bxGet (st.ro p).bx s = (bxGet st.bx s).map fun x => (x.1, x.2.map (roCell p)) := bxGet_map _ _ _
theorem drop_tm (q : Nat → Bool) (st : St Γ) (t : Nat) : tmGet (st.drop q).tm t = noPt q q (tmGet st.tm t) := tmGet_map _ rfl _ _
theorem drop_bx (q : Nat → Bool) (st : St Γ) (s : Nat) : bxGet (st.drop q).bx s = bif q s then none else bxGet st.bx s := bxGet_filter q _ _

theorem Inv.ext_ro {st : St Γ} {a : Act} {w w' : World} {μ μ' : Mp} {p : Nat → Nat → Bool} (h : Inv base S w0 n st a w μ) (H : Ext base p no1 no1 μ w μ' w') (hm : MapsOK base μ' w') (hb : Bel base w0 w') (ho : ∀ s g, μ'.ρ s = some g → μ.ρ s = some g) (hd : ∀ s, μ.ρ s = none → μ'.ρ s = none) (ht : ∀ d j g u, μ'.τ d j = some (g, u) → OwnTok base w0 g) : Inv base S w0 n (st.ro p) a w' μ' where
 maps := hm
 below := hb
 own s g e := h.own s g (ho s g e)
 keys := h.keys
 le := Nat.le_trans h.le H.size
 tm t := by
  rw [ro_tm]
  have := AVRep.ext H (fun s h => by cases h) (h.tm t)
  rwa [noPt_no] at this
 bx s T cs hs := by
  rw [ro_bx] at hs
  obtain ⟨x, hx, e⟩ := Option.map_eq_some_iff.1 hs
  obtain ⟨T', cs'⟩ := x
  cases e
  exact (h.bx s _ cs' hx).ext H rfl rfl
 dom s hs := by
  rw [ro_bx] at hs
  exact hd s (h.dom s (by cases hx : bxGet st.bx s with | none => rfl | some x => rw [hx] at hs; cases hs))
 defers := h.defers
 size := h.size
 town := ht
 fix := h.fix
 gd := h.gd

theorem ro_no (st : St Γ) : st.ro no2 = st := by
 cases st with
 | mk tm bx =>
  simp only [St.ro]
  congr 1
  ·rw [show (fun x : Nat × AV Γ => (x.1, roAV no2 x.2)) = id from funext fun x => by rw [roAV_no]; rfl, List.map_id]
  ·rw [show (fun x : Nat × Nat × List (Cell Γ) => (x.1, x.2.1, x.2.2.map (roCell no2))) = id from funext fun x => by rw [roCells_no]; rfl, List.map_id]

theorem dstIn_lt {n : Nt} {d : Nat} (h : aops.dstIn n (some d) = true) : d < n.n := by
 simp only [aops.dstIn, Bool.and_eq_true] at h
 exact Nat.le_of_ble_eq_true h.1

theorem Inv.fix_put {st : St Γ} {a : Act} {w : World} {μ : Mp} (h : Inv base S w0 n st a w μ) {dst : Option Nat} {y : Value} (hn : aops.dstIn n dst = true) : ∀ t v, w0.fix t = some v → hasKey n.fx t = true ∧ (a.put dst y).eval (.tmp t) = v := by
 intro t v e
 obtain ⟨h1, h2⟩ := h.fix t v e
 refine ⟨h1, ?_⟩
 cases dst with
 | none => exact h2
 | some d =>
  have hd : d < a.tmps.size := by rw [h.size]; exact dstIn_lt hn
  rw [put_eval hd, if_neg, h2]
  intro ee
  subst ee
  simp only [aops.dstIn, Bool.and_eq_true, Bool.not_eq_true'] at hn
  rw [h1] at hn
  cases hn.2

theorem Inv.put {st : St Γ} {a : Act} {w : World} {μ : Mp} (h : Inv base S w0 n st a w μ) {dst : Option Nat} {v : AV Γ} {y : Value} (hn : aops.dstIn n dst = true) (hv : AVRep base S μ w v y) : Inv base S w0 n ⟨putTm st.tm dst v, st.bx⟩ (a.put dst y) w μ := by
 cases dst with
 | none => exact h
 | some d =>
  have hd : d < a.tmps.size := by rw [h.size]; exact dstIn_lt hn
  refine ⟨h.maps, h.below, h.own, h.keys, h.le, fun t => ?_, h.bx, h.dom, h.defers, by simp [Act.put, h.size], h.town, h.fix_put hn, h.gd⟩
  rw [put_eval hd]
  simp only [putTm, tmGet]
  cases hb : Nat.beq d t with
  | true => obtain rfl := Nat.eq_of_beq_eq_true hb; simpa using hv
  | false =>
   have : t ≠ d := fun e => by subst e; rw [Nat.beq_refl] at hb; cases hb
   rw [if_neg this]
   exact h.tm t

theorem Inv.step {st : St Γ} {a : Act} {w w' : World} {μ μ' : Mp} (h : Inv base S w0 n st a w μ) {dst : Option Nat} {v : AV Γ} {eff : Eff Γ} {y : Value} (hn : aops.dstIn n dst = true) (H : OpPost base S w0 a.eval dst st.bx v eff w μ y w' μ') (hset : effOK st.bx eff = true) :
  Inv base S w0 n (st.upd dst v eff) (a.put dst y) w' μ' := by
 have hown : (∀ s T cs, ¬ (dst = some s ∧ eff = .new T cs)) → ∀ s g, μ'.ρ s = some g → μ.ρ s = some g := fun hno s g e => by
  cases hm : μ.ρ s with
  | none =>
   rcases H.dom s hm with e' | ⟨e1, T, cs, e2⟩
   ·rw [e'] at e; cases e
   ·exact absurd ⟨e1, e2⟩ (hno s T cs)
  | some g' =>
   have := H.ext.box s g' (by cases eff <;> first | rfl | exact absurd rfl (fun e => by cases e) | (simp only [qE]; split <;> first | rfl | (rename_i d _; exact Bool.eq_false_iff.2 fun hb => hno s _ _ ⟨by rw [← Nat.eq_of_beq_eq_true hb], rfl⟩))) hm
   rw [this] at e
   exact e
 cases eff with
 | none =>
  have hx : Ext base no2 no1 no1 μ w μ' w' := H.ext
  have h1 := h.ext_ro hx H.maps H.below (hown fun s T cs e => by cases e.2) (fun s hs => by
   rcases H.dom s hs with e | ⟨_, _, _, e⟩
   ·exact e
   ·cases e) H.town
  rw [ro_no] at h1
  exact h1.put hn H.val
 | fresh =>
  have h1 := h.ext_ro (p := isTok dst) H.ext H.maps H.below (hown fun s T cs e => by cases e.2) (fun s hs => by
   rcases H.dom s hs with e | ⟨_, _, _, e⟩
   ·exact e
   ·cases e) H.town
  exact h1.put hn H.val
 | app o =>
  have h1 := h.ext_ro (p := pE dst (.app o : Eff Γ)) H.ext H.maps H.below (hown fun s T cs e => by cases e.2) (fun s hs => by
   rcases H.dom s hs with e | ⟨_, _, _, e⟩
   ·exact e
   ·cases e) H.town
  cases o with
  | none =>
   have e : (pE dst (.app none : Eff Γ)) = isTok dst := by funext d j; simp [pE, hitTok]
   rw [e] at h1
   exact h1.put hn H.val
  | some t =>
   have e : (pE dst (.app (some t) : Eff Γ)) = or2 (isTok dst) (sameTok t) := by funext d j; simp [pE, hitTok, or2]
   rw [e, ← St.ro_or] at h1
   exact h1.put hn H.val
 | new T cs =>
  obtain ⟨d, rfl, hbox⟩ := H.new T cs rfl
  have hd : d < a.tmps.size := by rw [h.size]; exact dstIn_lt hn
  have hx : Ext base no2 (fun s => d.beq s) (fun s => d.beq s) μ w μ' w' := H.ext
  have hdom : ∀ s, d.beq s = false → μ.ρ s = none → μ'.ρ s = none := fun s hs hr => by
   rcases H.dom s hr with e | ⟨e, _⟩
   ·exact e
   ·cases e; rw [Nat.beq_refl] at hs; cases hs
  -- the state with the old box forgotten
  have main : ∀ st' : St Γ, (∀ t, AVRep base S μ' w' (tmGet st'.tm t) (a.eval (.tmp t))) → (∀ s, d.beq s = false → bxGet st'.bx s = bxGet st.bx s) → Inv base S w0 n ⟨(d, v) :: st'.tm, (d, T, cs) :: st'.bx⟩ (a.put (some d) y) w' μ' := by
   intro st' htm hbx
   have hown' : ∀ s g, μ'.ρ s = some g → OwnBox base w0 s g := fun s g e => by
    rcases H.own s g e with e1 | ⟨e1, e2⟩
    ·exact h.own s g e1
    ·refine .inl ⟨?_, e2⟩
     cases e1
     cases hr : w0.ρ d with
     | none => rfl
     | some g' => have := h.keys d g' hr; rw [h.size] at hd; omega
   refine ⟨H.maps, H.below, hown', h.keys, Nat.le_trans h.le hx.size, fun t => ?_, fun s T' cs' hs => ?_, fun s hs => ?_, h.defers, by simp [Act.put, h.size], H.town, h.fix_put hn, h.gd⟩
   ·rw [put_eval hd]
    simp only [tmGet]
    cases hb : Nat.beq d t with
    | true => obtain rfl := Nat.eq_of_beq_eq_true hb; simpa using H.val
    | false =>
     have : t ≠ d := fun e => by subst e; rw [Nat.beq_refl] at hb; cases hb
     rw [if_neg this]
     exact htm t
   ·simp only [bxGet] at hs
    cases hb : Nat.beq d s with
    | true => obtain rfl := Nat.eq_of_beq_eq_true hb; rw [hb] at hs; cases hs; exact hbox
    | false =>
     rw [hb] at hs
     simp only [cond_false] at hs
     rw [hbx s hb] at hs
     have := (h.bx s T' cs' hs).ext hx hb hb
     rwa [roCells_no] at this
   ·simp only [bxGet] at hs
    cases hb : Nat.beq d s with
    | true => rw [hb] at hs; cases hs
    | false =>
     rw [hb] at hs
     simp only [cond_false] at hs
     rw [hbx s hb] at hs
     exact hdom s hb (h.dom s hs)
  have hval : ∀ t, AVRep base S μ' w' (noPt (fun s => d.beq s) (fun s => d.beq s) (tmGet st.tm t)) (a.eval (.tmp t)) := fun t => by
   have := AVRep.ext hx (fun s h => h) (h.tm t)
   rwa [roAV_no] at this
  simp only [St.upd]
  cases hh : bxHas st.bx d with
  | true =>
   simp only [cond_true]
   refine main (st.drop d.beq) (fun t => ?_) fun s hs => ?_
   ·rw [drop_tm]; exact hval t
   ·rw [drop_bx, hs]; rfl
  | false =>
   simp only [cond_false]
   refine main st (fun t => ?_) fun s hs => rfl
   have hnone := h.dom d (bxHas_get hh)
   have := hval t
   rwa [noPt_id (fun s hs => by obtain rfl := Nat.eq_of_beq_eq_true hs; exact hnone) (h.tm t)] at this
 | set s off cs =>
  have hx : Ext base no2 no1 (fun z => s.beq z) μ w μ' w' := H.ext
  simp only [effOK] at hset
  cases hb : bxGet st.bx s with
  | none => rw [hb] at hset; cases hset
  | some Told =>
   obtain ⟨T, old⟩ := Told
   have hbox := H.set s off cs rfl T old hb
   have hval : ∀ t, AVRep base S μ' w' (noPt (fun _ => false) (fun z => s.beq z) (tmGet st.tm t)) (a.eval (.tmp t)) := fun t => by
    have := AVRep.ext hx (fun s h => by cases h) (h.tm t)
    rwa [roAV_no] at this
   have main : ∀ tm' : Tm Γ, (∀ t, AVRep base S μ' w' (tmGet tm' t) (a.eval (.tmp t))) → Inv base S w0 n ⟨tm', bxSet st.bx s (setCells old off cs)⟩ a w' μ' := by
    intro tm' htm
    refine ⟨H.maps, H.below, fun s g e => h.own s g (hown (fun s T cs e => by cases e.2) s g e), h.keys, Nat.le_trans h.le hx.size, htm, fun s' T' cs' hs => ?_, fun s' hs => ?_, h.defers, h.size, H.town, h.fix, h.gd⟩
    ·have hs : bxGet (bxSet st.bx s (setCells old off cs)) s' = some (T', cs') := hs
     rw [bxGet_set] at hs
     cases he : s.beq s' with
     | true => obtain rfl := Nat.eq_of_beq_eq_true he; rw [he, hb] at hs; cases hs; exact hbox
     | false =>
      rw [he] at hs
      have := (h.bx s' T' cs' hs).ext hx rfl he
      rwa [roCells_no] at this
    ·have hs : bxGet (bxSet st.bx s (setCells old off cs)) s' = none := hs
     rw [bxGet_set] at hs
     have hn : μ.ρ s' = none := by
      cases he : s.beq s' with
      | true => obtain rfl := Nat.eq_of_beq_eq_true he; rw [he, hb] at hs; cases hs
      | false => rw [he] at hs; exact h.dom s' hs
     rcases H.dom s' hn with e | ⟨_, _, _, e⟩
     ·exact e
     ·cases e
   simp only [St.upd, hb]
   cases hT : (Γ.td T).isArr with
   | true =>
    simp only [cond_true]
    exact (main _ fun t => by rw [tmGet_map _ rfl]; exact hval t).put (v := .u) hn trivial
   | false =>
    simp only [cond_false]
    exact (main _ fun t => by have := hval t; rwa [noIx_id (h.bx s T old hb) hT (h.tm t)] at this).put (v := .u) hn trivial

 | muts fr l =>
  have hx : Ext base (fun d' j => bif fr then isTok dst d' j else false) no1 (fun s => l.any fun x => x.1.beq s) μ w μ' w' := H.ext
  simp only [effOK, Bool.and_eq_true, List.all_eq_true] at hset
  obtain ⟨hnd, hall⟩ := hset
  have hown' := hown (fun s T cs e => by cases e.2)
  have hdom : ∀ s, μ.ρ s = none → μ'.ρ s = none := fun s hs => by
   rcases H.dom s hs with e | ⟨_, _, _, e⟩
   ·exact e
   ·cases e
  -- no pointer into an array is lost
  have hix : ∀ (x : AV Γ) (z : Value), AVRep base S μ w x z → noPt no1 (fun s => l.any fun x => x.1.beq s) x = x := by
   intro x z hr
   have key : ∀ (p : Pt Γ) (v : Value), PtRep base S μ w p v → ptIn no1 (fun s => l.any fun x => x.1.beq s) p = false := by
    intro p v hp
    cases p with
    | box s o => rfl
    | ref cs => rfl
    | el e xs d j i o => rfl
    | un => rfl
    | ix s' o e xs i =>
     obtain ⟨g', _, cur', T', hg, hh, hT', _⟩ := hp
     show (l.any fun x => x.1.beq s') = false
     cases hs : l.any fun x => x.1.beq s' with
     | false => rfl
     | true =>
      obtain ⟨x, hx, hxs⟩ := List.any_eq_true.1 hs
      have hxs := Nat.eq_of_beq_eq_true hxs
      have := hall x hx
      rw [hxs] at this
      cases hb : bxGet st.bx s' with
      | none => rw [hb] at this; cases this
      | some Tc =>
       obtain ⟨T, cs⟩ := Tc
       rw [hb] at this
       obtain ⟨g, cur, b1, b2, _⟩ := h.bx s' T cs hb
       rw [b1] at hg
       injection hg with hg
       subst hg
       rw [b2] at hh
       injection hh with hh
       injection hh with _ hh
       subst hh
       simp [hT'] at this
   cases x with
   | p p => simp only [noPt, key p z hr, cond_false]
   | clo f qs =>
    obtain ⟨vs, rfl, hr⟩ := hr
    have : ∀ (qs : List (Pt Γ)) (vs : List Value), PtsRep base S μ w qs vs → qs.any (ptIn no1 (fun s => l.any fun x => x.1.beq s)) = false := by
     intro qs
     induction qs with
     | nil => intro _ _; rfl
     | cons p qs ih => intro vs hr; cases vs with
      | nil => exact hr.elim
      | cons v vs => simp [key p v hr.1, ih vs hr.2]
    simp only [noPt, this qs vs hr, cond_false]
   | _ => rfl
  have hset_ : ∀ (l : List (Nat × List (Cell Γ))) (bx : Bx Γ) (s : Nat), (l.any fun x => x.1.beq s) = false → bxGet (setAll bx l) s = bxGet bx s := by
   intro l
   induction l with
   | nil => intro bx s _; rfl
   | cons x l ih =>
    intro bx s hs
    simp only [List.any_cons, Bool.or_eq_false_iff] at hs
    simp only [setAll]
    rw [ih _ s hs.2, bxGet_set, hs.1]
    rfl
  have hset2 : ∀ (l : List (Nat × List (Cell Γ))) (bx : Bx Γ), nodupB (l.map fun x => x.1) = true → ∀ x ∈ l, bxGet (setAll bx l) x.1 = (bxGet bx x.1).map fun y => (y.1, x.2) := by
   intro l
   induction l with
   | nil => intro bx _ x hx; cases hx
   | cons x l ih =>
    intro bx hn y hy
    simp only [List.map_cons, nodupB, Bool.and_eq_true] at hn
    have hno : (l.any fun z => z.1.beq x.1) = false := by
     have := hn.1
     simp only [List.any_map, Bool.not_eq_true'] at this
     rw [← this]
     congr 1
     funext z
     simp only [Function.comp]
     cases h1 : z.1.beq x.1 with
     | true => rw [Nat.eq_of_beq_eq_true h1, Nat.beq_refl]
     | false =>
      cases h2 : x.1.beq z.1 with
      | true => rw [Nat.eq_of_beq_eq_true h2, Nat.beq_refl] at h1; cases h1
      | false => rfl
    simp only [setAll]
    rcases List.mem_cons.1 hy with rfl | hy
    ·rw [hset_ l _ _ hno, bxGet_set, Nat.beq_refl]
     rfl
    ·have hne : x.1.beq y.1 = false := by
      cases h1 : x.1.beq y.1 with
      | false => rfl
      | true =>
       have := List.any_eq_false.1 hno y hy
       rw [Nat.eq_of_beq_eq_true h1, Nat.beq_refl] at this
       exact absurd rfl this
     rw [ih _ hn.2 y hy, bxGet_set, hne]
     rfl
  have main : ∀ (st1 : St Γ), (∀ t, AVRep base S μ' w' (tmGet st1.tm t) (a.eval (.tmp t))) → (∀ s T cs, (l.any fun x => x.1.beq s) = false → bxGet st1.bx s = some (T, cs) → BoxRep base S μ' w' s T cs) → (∀ s, (bxGet st1.bx s).map (fun x => x.1) = (bxGet st.bx s).map (fun x => x.1)) →
    Inv base S w0 n ⟨st1.tm, setAll st1.bx l⟩ a w' μ' := by
   intro st1 htm hbx hT
   refine ⟨H.maps, H.below, fun s g e => h.own s g (hown' s g e), h.keys, Nat.le_trans h.le hx.size, htm, fun s T cs hs => ?_, fun s hs => ?_, h.defers, h.size, H.town, h.fix, h.gd⟩
   ·have hs : bxGet (setAll st1.bx l) s = some (T, cs) := hs
    cases hk : l.any fun x => x.1.beq s with
    | false => rw [hset_ l _ s hk] at hs; exact hbx s T cs hk hs
    | true =>
     obtain ⟨x, hx', hxs⟩ := List.any_eq_true.1 hk
     obtain rfl := Nat.eq_of_beq_eq_true hxs
     rw [hset2 l _ hnd x hx'] at hs
     obtain ⟨y, hy, e⟩ := Option.map_eq_some_iff.1 hs
     cases e
     have ht := hT x.1
     rw [hy] at ht
     cases hb : bxGet st.bx x.1 with
     | none => rw [hb] at ht; cases ht
     | some To =>
      rw [hb] at ht
      obtain ⟨T0, old⟩ := To
      have e : y.1 = T0 := by injection ht
      rw [e]
      exact H.muts fr l rfl x hx' T0 old hb
   ·have hs : bxGet (setAll st1.bx l) s = none := hs
    have hn : bxGet st.bx s = none := by
     have h0 : bxGet st1.bx s = none := by
      cases hk : l.any fun x => x.1.beq s with
      | false => rw [hset_ l _ s hk] at hs; exact hs
      | true =>
       obtain ⟨x, hx', hxs⟩ := List.any_eq_true.1 hk
       obtain rfl := Nat.eq_of_beq_eq_true hxs
       rw [hset2 l _ hnd x hx'] at hs
       cases hb : bxGet st1.bx x.1 with
       | none => rfl
       | some y => rw [hb] at hs; cases hs
     have ht := hT s
     rw [h0] at ht
     cases hb : bxGet st.bx s with
     | none => rfl
     | some y => rw [hb] at ht; cases ht
    exact hdom s (h.dom s hn)
  have hval : ∀ t, AVRep base S μ' w' (roAV (fun d' j => bif fr then isTok dst d' j else false) (tmGet st.tm t)) (a.eval (.tmp t)) := fun t => by
   have := AVRep.ext hx (fun s h => by cases h) (h.tm t)
   have e : noPt no1 (fun s => l.any fun x => x.1.beq s) (roAV (fun d' j => bif fr then isTok dst d' j else false) (tmGet st.tm t)) = roAV (fun d' j => bif fr then isTok dst d' j else false) (tmGet st.tm t) := by
    have h0 := hix _ _ (h.tm t)
    generalize tmGet st.tm t = z at h0 ⊢
    cases z with
    | p q =>
     simp only [noPt, roAV] at h0 ⊢
     have e : ptIn no1 (fun s => l.any fun x => x.1.beq s) (roPt (fun d' j => bif fr then isTok dst d' j else false) q) = ptIn no1 (fun s => l.any fun x => x.1.beq s) q := by
      cases q with
      | el e xs d j i o => simp only [roPt]; cases (bif fr then isTok dst d j else false) <;> rfl
      | _ => rfl
     rw [e]
     cases hq : ptIn no1 (fun s => l.any fun x => x.1.beq s) q with
     | false => rfl
     | true => rw [hq] at h0; cases h0
    | clo f qs =>
     simp only [noPt, roAV] at h0 ⊢
     have e : (qs.map (roPt (fun d' j => bif fr then isTok dst d' j else false))).any (ptIn no1 (fun s => l.any fun x => x.1.beq s)) = qs.any (ptIn no1 (fun s => l.any fun x => x.1.beq s)) := by
      rw [List.any_map]; congr 1; funext q
      cases q with
      | el e xs d j i o => simp only [Function.comp, roPt]; cases (bif fr then isTok dst d j else false) <;> rfl
      | _ => rfl
     rw [e]
     cases hq : qs.any (ptIn no1 (fun s => l.any fun x => x.1.beq s)) with
     | false => rfl
     | true => rw [hq] at h0; cases h0
    | _ => rfl
   rwa [e] at this
  have hboxes : ∀ s T cs, (l.any fun x => x.1.beq s) = false → bxGet st.bx s = some (T, cs) → BoxRep base S μ' w' s T (cs.map (roCell (fun d' j => bif fr then isTok dst d' j else false))) := fun s T cs hk hs => (h.bx s T cs hs).ext hx rfl hk
  simp only [St.upd]
  cases fr with
  | true =>
   simp only [cond_true]
   refine (main (st.ro (isTok dst)) (fun t => ?_) (fun s T cs hk hs => ?_) (fun s => ?_)).put hn H.val
   ·rw [ro_tm]; exact hval t
   ·rw [ro_bx] at hs
    obtain ⟨x, hx', e⟩ := Option.map_eq_some_iff.1 hs
    obtain ⟨T', cs'⟩ := x
    cases e
    exact hboxes s _ cs' hk hx'
   ·rw [ro_bx]
    cases bxGet st.bx s <;> rfl
  | false =>
   simp only [cond_false]
   have e0 : (fun (d' j : Nat) => bif false then isTok dst d' j else false) = no2 := rfl
   refine (main st (fun t => ?_) (fun s T cs hk hs => ?_) (fun s => rfl)).put hn H.val
   ·have := hval t
    rwa [e0, roAV_no] at this
   ·have := hboxes s T cs hk hs
    rwa [e0, roCells_no] at this

 | put d j e i x =>
  have hx : Ext base (sameTok (d, j)) no1 no1 μ w μ' w' := H.ext
  obtain ⟨hcell, hptp⟩ := H.put d j e i x rfl
  have hown' := hown (fun s T cs e => by cases e.2)
  have hdom : ∀ s, μ.ρ s = none → μ'.ρ s = none := fun s hs => by
   rcases H.dom s hs with e | ⟨_, _, _, e⟩
   ·exact e
   ·cases e
  have hcells : ∀ (cs : List (Cell Γ)) (vs : List Value), CellsRep base S μ w cs vs → CellsRep base S μ' w' (cs.map (elCell d j e i x)) vs := by
   intro cs
   induction cs with
   | nil => intro vs h; cases vs with
    | nil => trivial
    | cons _ _ => exact h.elim
   | cons c cs ih => intro vs h; cases vs with
    | nil => exact h.elim
    | cons v vs => exact ⟨hcell c v h.1, ih vs h.2⟩
  have hfv : ∀ (y : FV Γ) (z : Value), FVRep base S μ w y z → FVRep base S μ' w' (elFV d j e i x y) z := by
   intro y z h
   cases y with
   | c c => exact hcell c z h
   | agg cs => obtain ⟨vs, rfl, h⟩ := h; exact ⟨vs, rfl, hcells cs vs h⟩
  have hfvs : ∀ (l : List (FV Γ)) (vs : List Value), FVsRep base S μ w l vs → FVsRep base S μ' w' (l.map (elFV d j e i x)) vs := by
   intro l
   induction l with
   | nil => intro vs h; cases vs with
    | nil => trivial
    | cons _ _ => exact h.elim
   | cons c cs ih => intro vs h; cases vs with
    | nil => exact h.elim
    | cons v vs => exact ⟨hfv c v h.1, ih vs h.2⟩
  have hav : ∀ (y : AV Γ) (z : Value), AVRep base S μ w y z → AVRep base S μ' w' (elAV d j e i x y) z := by
   intro y z h
   cases y with
   | f y => exact hfv y z h
   | tup l => obtain ⟨vs, rfl, h⟩ := h; exact ⟨vs, rfl, hfvs l vs h⟩
   | u => trivial
   | p q => exact hptp q z h
   | clo f qs =>
    obtain ⟨vs, rfl, h⟩ := h
    refine ⟨vs, rfl, ?_⟩
    have : ∀ (qs : List (Pt Γ)) (vs : List Value), PtsRep base S μ w qs vs → PtsRep base S μ' w' (qs.map (elPt d j e i x)) vs := by
     intro qs
     induction qs with
     | nil => intro vs h; cases vs with
      | nil => trivial
      | cons _ _ => exact h.elim
     | cons q qs ih => intro vs h; cases vs with
      | nil => exact h.elim
      | cons v vs => exact ⟨hptp q v h.1, ih vs h.2⟩
    exact this qs vs h
  simp only [St.upd]
  refine Inv.put (st := ⟨st.tm.map fun y => (y.1, elAV d j e i x y.2), st.bx.map fun y => (y.1, y.2.1, y.2.2.map (elCell d j e i x))⟩) ?_ (v := .u) hn trivial
  refine ⟨H.maps, H.below, fun s g e => h.own s g (hown' s g e), h.keys, Nat.le_trans h.le hx.size, fun t => ?_, fun s T cs hs => ?_, fun s hs => ?_, h.defers, h.size, H.town, h.fix, h.gd⟩
  ·rw [tmGet_map _ rfl]; exact hav _ _ (h.tm t)
  ·rw [bxGet_map] at hs
   obtain ⟨y, hy, ee⟩ := Option.map_eq_some_iff.1 hs
   obtain ⟨T', cs'⟩ := y
   cases ee
   obtain ⟨g, cur, b1, b2, b3⟩ := h.bx s _ cs' hy
   exact ⟨g, cur, hx.box s g rfl b1, (hx.hbox s g rfl rfl b1).trans b2, hcells _ _ b3⟩
  ·rw [bxGet_map] at hs
   exact hdom s (h.dom s (by cases hb : bxGet st.bx s with | none => rfl | some y => rw [hb] at hs; cases hs))

 | rows fr l =>
  have hown' := hown (fun s T cs e => by cases e.2)
  have hdom : ∀ s, μ.ρ s = none → μ'.ρ s = none := fun s hs => by
   rcases H.dom s hs with e | ⟨_, _, _, e⟩
   ·exact e
   ·cases e
  have hrow := H.rows fr l rfl
  have h1 := h.ext_ro (p := pE dst (.rows fr l : Eff Γ)) H.ext H.maps H.below hown' hdom H.town
  have e : st.ro (pE dst (.rows fr l : Eff Γ)) = (bif fr then st.ro (isTok dst) else st).ro (rowHas l) := by
   cases fr with
   | true =>
    have e : (pE dst (.rows true l : Eff Γ)) = or2 (isTok dst) (rowHas l) := by funext d j; simp [pE, or2]
    rw [e, ← St.ro_or]; rfl
   | false =>
    have e : (pE dst (.rows false l : Eff Γ)) = rowHas l := by funext d j; simp [pE]
    rw [e]; rfl
  rw [e] at h1
  simp only [St.upd]
  generalize (bif fr then st.ro (isTok dst) else st).ro (rowHas l) = st1 at h1 ⊢
  have key : ∀ (l : List (Nat × Nat × Nat × Cell Γ)), (∀ x ∈ l, CellRep base S μ' w' (retok x.2.1 x.2.2.1 x.2.2.2) (a.eval (.tmp x.1))) → ∀ t, AVRep base S μ' w' (tmGet (rowPuts l st1.tm) t) (a.eval (.tmp t)) := by
   intro l
   induction l with
   | nil => intro _ t; exact h1.tm t
   | cons x l ih =>
    intro hl t
    obtain ⟨t0, d, j, c⟩ := x
    simp only [rowPuts, tmGet]
    cases hb : Nat.beq t0 t with
    | true => obtain rfl := Nat.eq_of_beq_eq_true hb; exact hl _ List.mem_cons_self
    | false => exact ih (fun x hx => hl x (List.mem_cons_of_mem _ hx)) t
  exact Inv.put (st := ⟨rowPuts l st1.tm, st1.bx⟩) ⟨h1.maps, h1.below, h1.own, h1.keys, h1.le, key l hrow, h1.bx, h1.dom, h1.defers, h1.size, h1.town, h1.fix, h1.gd⟩ hn H.val

theorem Inv.putB {st : St Γ} {a : Act} {w : World} {μ : Mp} (h : Inv base S w0 n st a w μ) {t : Nat} {b : Bool} (hb : a.eval (.tmp t) = .bool b) : Inv base S w0 n (putB st t b) a w μ := by
 refine ⟨h.maps, h.below, h.own, h.keys, h.le, fun t' => ?_, h.bx, h.dom, h.defers, h.size, h.town, h.fix, h.gd⟩
 simp only [Refl.putB, tmGet]
 cases he : Nat.beq t t' with
 | true => obtain rfl := Nat.eq_of_beq_eq_true he; exact hb
 | false => exact h.tm t'

theorem condT_inv {R : Type} {t : Nat} {st : St Γ} {A B : St Γ → Option R} {r : R} (h : condT t st A B = some r) {a : Act} {w : World} {μ : Mp} (hi : AVRep base S μ w (tmGet st.tm t) (a.eval (.tmp t))) :
  ∃ b : Bool, a.eval (.tmp t) = .bool b ∧ (if b = true then A (putB st t true) else B (putB st t false)) = some r := by
 unfold condT at h
 split at h
 ·rename_i b hb
  rw [hb] at hi
  exact ⟨b, hi, h⟩
 ·rename_i b q i hh hb
  rw [hb] at hi
  refine ⟨b, hi, ?_⟩
  subst hh
  by_cases hq : q
  ·simpa [hq] using h
  ·simpa [hq] using h
 ·rename_i b q i hh hb
  rw [hb] at hi
  refine ⟨b, hi, ?_⟩
  subst hh
  by_cases hq : q
  ·simpa [hq] using h
  ·simpa [hq] using h
 ·cases h

theorem condT_inv' {R : Type} {t : Nat} {st : St Γ} {A B : St Γ → Option R} {r : R} (h : condT t st A B = some r) :
  ∃ b : Bool, (∀ base S μ w y, AVRep base S μ w (tmGet st.tm t) y → y = .bool b) ∧ (if b = true then A (putB st t true) else B (putB st t false)) = some r := by
 unfold condT at h
 split at h
 ·rename_i b hb
  exact ⟨b, fun _ _ _ _ _ hi => by rw [hb] at hi; exact hi, h⟩
 ·rename_i b q i hh hb
  refine ⟨b, fun _ _ _ _ _ hi => by rw [hb] at hi; exact hi, ?_⟩
  subst hh
  by_cases hq : q
  ·simpa [hq] using h
  ·simpa [hq] using h
 ·rename_i b q i hh hb
  refine ⟨b, fun _ _ _ _ _ hi => by rw [hb] at hi; exact hi, ?_⟩
  subst hh
  by_cases hq : q
  ·simpa [hq] using h
  ·simpa [hq] using h
 ·cases h

def yb : Value → Option Bool
 | .bool b => some b
 | _ => none

theorem yb_some {y : Value} {b : Bool} (h : yb y = some b) : y = .bool b := by
 cases y with
 | bool b' => cases h; rfl
 | _ => cases h

theorem condG_inv {R : Type} {want : Bool} {t : Nat} {st : St Γ} {yes no : St Γ → Option R} {r : R} (h : condG want t st yes no = some r) :
  ∃ (yv : Option Bool) (st' : St Γ), (∀ base S μ w y, AVRep base S μ w (tmGet st.tm t) y → yb y = yv) ∧ (st' = st ∨ ∃ b, yv = some b ∧ st' = putB st t b) ∧ (if (yv == some want) = true then yes st' else no st') = some r := by
 unfold condG at h
 split at h
 ·rename_i hu
  exact ⟨none, st, fun _ _ _ _ y hy => by rw [hu] at hy; rw [show y = .tuple ⟨[]⟩ from hy]; rfl, .inl rfl, h⟩
 ·split at h
  ·obtain ⟨b, hb, hh⟩ := condT_inv' h
   refine ⟨some b, _, fun _ _ _ _ y hy => by rw [hb _ _ _ _ y hy]; rfl, .inr ⟨b, rfl, rfl⟩, ?_⟩
   cases b <;> simpa using hh
  ·obtain ⟨b, hb, hh⟩ := condT_inv' h
   refine ⟨some b, _, fun _ _ _ _ y hy => by rw [hb _ _ _ _ y hy]; rfl, .inr ⟨b, rfl, rfl⟩, ?_⟩
   cases b <;> simpa using hh

theorem eval_getD (a : Act) (t : Nat) : a.eval (.tmp t) = a.tmps.getD t undef := rfl

theorem yielded_yb {ops : List Oper} {j t : Nat} (ht : dstOf ops j = some t) {a : Act} : yielded ops.toArray a.tmps j = yb (a.eval (.tmp t)) := by
 have hnth : ∀ (l : List Oper) (j : Nat), nth l j = l[j]? := by
  intro l
  induction l with
  | nil => intro j; simp [nth]
  | cons x l ih => intro j; cases j <;> simp [nth, ih]
 unfold dstOf at ht
 rw [hnth] at ht
 split at ht
 ·rename_i o ho
  have ho' : ops.toArray[j]? = some o := by simpa using ho
  simp only [yielded, ho', Option.bind_some, ht, Act.eval, Array.getD_eq_getD_getElem?]
  cases hx : a.tmps[t]? with
  | none => rfl
  | some v => cases v <;> rfl
 ·cases ht

def AlOK (al : List (Nat × Nat)) (a : Act) : Prop := ∀ p ∈ al, a.eval (.tmp p.1) = a.eval (.tmp p.2)

theorem AlOK.kill {al : List (Nat × Nat)} {a : Act} (h : AlOK al a) {n : Nt} {dst : Option Nat} {y : Value} (hn : aops.dstIn n dst = true) (hs : a.tmps.size = n.n) : AlOK (alKill al dst) (a.put dst y) := by
 cases dst with
 | none => exact h
 | some d =>
  intro p hp
  have hd : d < a.tmps.size := by rw [hs]; exact dstIn_lt hn
  obtain ⟨h1, h2⟩ := List.mem_filter.1 hp
  rw [Bool.and_eq_true, Bool.not_eq_true', Bool.not_eq_true'] at h2
  have e1 : p.1 ≠ d := fun e => by rw [e, Nat.beq_refl] at h2; cases h2.1
  have e2 : p.2 ≠ d := fun e => by rw [e, Nat.beq_refl] at h2; cases h2.2
  rw [put_eval hd, put_eval hd, if_neg e1, if_neg e2]
  exact h p h1

theorem rowHas_al (al : List (Nat × Nat)) : ∀ l : List (Nat × Nat × Nat × Cell Γ), rowHas (alRows al l) = rowHas l := by
 intro l
 funext d j
 induction l with
 | nil => rfl
 | cons x l ih =>
  simp only [rowHas, alRows, List.any_append, List.any_cons, List.any_map, Function.comp_def] at ih ⊢
  rw [ih]
  cases h : (x.2.1.beq d).and (x.2.2.1.beq j) with
  | true => rfl
  | false => simp

theorem alRows_mem {al : List (Nat × Nat)} : ∀ {l : List (Nat × Nat × Nat × Cell Γ)} {x : Nat × Nat × Nat × Cell Γ}, x ∈ alRows al l → x ∈ l ∨ ∃ y ∈ l, (y.1, x.1) ∈ al ∧ x.2 = y.2
 | [], x, h => by cases h
 | y :: l, x, h => by
  simp only [alRows, List.mem_append, List.mem_cons, List.mem_map, List.mem_filter] at h
  rcases h with (rfl | ⟨p, ⟨h1, h2⟩, rfl⟩) | h
  ·exact .inl List.mem_cons_self
  ·refine .inr ⟨y, List.mem_cons_self, ?_, rfl⟩
   have e : y.1 = p.1 := (Nat.eq_of_beq_eq_true h2).symm
   rw [e]
   exact h1
  ·rcases alRows_mem h with h | ⟨z, h1, h2⟩
   ·exact .inl (List.mem_cons_of_mem _ h)
   ·exact .inr ⟨z, List.mem_cons_of_mem _ h1, h2⟩

theorem OpPost.al {al : List (Nat × Nat)} {a : Act} (ha : AlOK al a) {dst : Option Nat} {bx : Bx Γ} {v : AV Γ} {eff : Eff Γ} {w w' : World} {μ μ' : Mp} {y : Value} (H : OpPost base S w0 a.eval dst bx v eff w μ y w' μ') : OpPost base S w0 a.eval dst bx v (withAl al eff) w μ y w' μ' := by
 cases eff with
 | rows fr l =>
  have e1 : pE dst (.rows fr (alRows al l) : Eff Γ) = pE dst (.rows fr l : Eff Γ) := by funext d j; simp only [pE, rowHas_al]
  refine ⟨H.maps, H.below, H.own, H.town, ?_, H.val, fun s hs => ?_, H.tdom, fun _ _ e => (by cases e), fun _ _ _ e => (by cases e), fun _ _ e => (by cases e), fun _ _ _ _ _ e => (by cases e), fun fr' l' e x hx => ?_⟩
  ·have := H.ext
   simp only [withAl]
   rw [e1]
   exact this
  ·rcases H.dom s hs with e | ⟨_, _, _, e⟩
   ·exact .inl e
   ·cases e
  ·cases e
   rcases alRows_mem hx with h | ⟨z, h1, h2, h3⟩
   ·exact H.rows _ _ rfl x h
   ·have := H.rows _ _ rfl z h1
    rw [h3]
    have e : a.eval (.tmp z.1) = a.eval (.tmp x.1) := ha _ h2
    rw [← e]
    exact this
 | _ => exact H

theorem move_wp {P : Program} {o : Oper} {x : Operand} (ho : o.op = .move x) (a : Act) (w : World) (N : Act → World → Prop) (Q : Exit → Act → World → Prop) : o.wp P a w N Q ↔ N (a.put o.dst (a.eval x)) w := by
 unfold Oper.wp execOp
 rw [ho]
 exact Iff.rfl

theorem effOK_al (al : List (Nat × Nat)) (bx : Bx Γ) (eff : Eff Γ) : effOK bx (withAl al eff) = effOK bx eff := by cases eff <;> rfl

theorem alStep_kill {al : List (Nat × Nat)} {o : Oper} (h : ∀ s d, o.op = .move (.tmp s) → o.dst = some d → s = d) : alStep al o = alKill al o.dst := by
 unfold alStep
 split
 ·rename_i s d h1 h2
  rw [h s d h1 h2, Nat.beq_refl]
  rw [h2]
  rfl
 ·rfl

theorem aop_step {R : Type} (C : CtxOK P Γ) {E : List (Ent Γ)} (hE : ∀ e ∈ E, EntOK P e) {all : List Oper} {Q : Exit → Act → World → Prop} {Nx : Act → World → Prop} {o : Oper} {l : List Oper} {i : Nat} {st : St Γ} {K : St Γ → Option R} {r : R} {a : Act} {w : World} {μ : Mp} {al : List (Nat × Nat)}
  (ho : all[i]? = some o) (h : aops n E all al (o :: l) st K = some r) (hi : Inv base S w0 n st a w μ) (ha : AlOK al a) (hN : ∀ st' a' w' μ' al', Inv base S w0 n st' a' w' μ' → AlOK al' a' → aops n E all al' l st' K = some r → Nx a' w') : wpOp P all.toArray Q i Nx a w := by
 have ho : all.toArray[i]? = some o := by simpa using ho
 rw [aops] at h
 cases hdn : aops.dstIn n o.dst with
 | false => simp [hdn] at h
 | true =>
  simp only [hdn, cond_true] at h
  unfold wpOp
  rw [ho]
  simp only
  have yes : ∀ st1 : St Γ, Inv base S w0 n st1 a w μ → (evalOp E st1.tm st1.bx o fun v eff => bif effOK st1.bx eff then aops n E all (alStep al o) l (st1.upd o.dst v (withAl al eff)) K else none) = some r → o.wp P a w Nx Q := by
   intro st1 hi1 hev
   obtain ⟨v, eff, hk, hs⟩ := evalOp_sound (P := P) C hE hev
   cases he : effOK st1.bx eff with
   | false => simp [he] at hk
   | true =>
    simp only [he, cond_true] at hk
    by_cases hmv : ∃ s d, o.op = .move (.tmp s) ∧ o.dst = some d ∧ s ≠ d
    ·obtain ⟨s, d, m1, m2, m3⟩ := hmv
     have := hs he base S w0 a w μ (hi1.pre o) (fun a' w' => a' = a.put o.dst (a.eval (.tmp s)) → Nx a' w') Q fun y w' μ' H hy => hN _ _ w' μ' _ (hi1.step hdn (H.al ha) (by rw [effOK_al]; exact he)) (by
      rw [hy]
      have hk := ha.kill (y := a.eval (.tmp s)) hdn hi1.size
      have hd : d < a.tmps.size := by rw [hi1.size]; exact dstIn_lt (by rw [← m2]; exact hdn)
      unfold alStep
      rw [m1, m2]
      have e : s.beq d = false := by
       cases hb : s.beq d with
       | true => exact absurd (Nat.eq_of_beq_eq_true hb) m3
       | false => rfl
      simp only [e, cond_false]
      rw [m2] at hk
      intro p hp
      rcases List.mem_cons.1 hp with rfl | hp
      ·simp only [put_eval hd, if_true, if_neg m3]
      ·exact hk p hp) hk
     rw [move_wp m1] at this ⊢
     exact this rfl
    ·have hst : alStep al o = alKill al o.dst := alStep_kill fun s d e1 e2 => Classical.byContradiction fun e3 => hmv ⟨s, d, e1, e2, e3⟩
     rw [hst] at hk
     exact hs he base S w0 a w μ (hi1.pre o) _ Q fun y w' μ' H => hN _ _ w' μ' _ (hi1.step hdn (H.al ha) (by rw [effOK_al]; exact he)) (ha.kill hdn hi1.size) hk
  have no : ∀ st1 : St Γ, Inv base S w0 n st1 a w μ → aops n E all (alKill al o.dst) l (st1.upd o.dst skipAV .none) K = some r → Nx (a.put o.dst undef) w := by
   intro st1 hi1 hev
   exact hN _ _ w μ _ (hi1.put (v := skipAV) hdn rfl) (ha.kill hdn hi1.size) hev
  cases hg : o.guard with
  | none =>
   rw [hg] at h
   have hw : Region.wanted o (yielded all.toArray a.tmps) = true := by simp [Region.wanted, hg]
   rw [if_pos hw]
   exact .inl (yes st hi h)
  | some gw =>
   obtain ⟨j, want⟩ := gw
   rw [hg] at h
   simp only at h
   split at h
   ·rename_i t ht
    obtain ⟨yv, st', g1, g2, g3⟩ := condG_inv h
    have hy : yb (a.eval (.tmp t)) = yv := g1 _ _ _ _ _ (hi.tm t)
    have hi' : Inv base S w0 n st' a w μ := by
     rcases g2 with rfl | ⟨b, rfl, rfl⟩
     ·exact hi
     ·exact hi.putB (yb_some hy)
    have hw : Region.wanted o (yielded all.toArray a.tmps) = (yv == some want) := by simp only [Region.wanted, hg, yielded_yb ht, hy]
    rw [hw]
    cases hq : (yv == some want) with
    | true => rw [hq] at g3; simp only [if_true] at g3 ⊢; exact .inl (yes _ hi' g3)
    | false => rw [hq] at g3; simp only [Bool.false_eq_true, if_false] at g3 ⊢; exact no _ hi' g3
   ·cases h

theorem aops_sound {R : Type} (C : CtxOK P Γ) {E : List (Ent Γ)} (hE : ∀ e ∈ E, EntOK P e) {all : List Oper} {Q : Exit → Act → World → Prop} : ∀ (l : List Oper) (is : List Nat) (st : St Γ) (K : St Γ → Option R) (r : R) (a : Act) (w : World) (μ : Mp) (al : List (Nat × Nat)),
  is.length = l.length → (∀ (j i : Nat), is[j]? = some i → all[i]? = l[j]?) → aops n E all al l st K = some r → Inv base S w0 n st a w μ → AlOK al a →
  (∀ st' a' w' μ', Inv base S w0 n st' a' w' μ' → K st' = some r → Q .normal a' w') → wpOps P all.toArray Q is a w
 | [], is, st, K, r, a, w, μ, al, hl, _, h, hi, _, hQ => by
  have : is = [] := List.eq_nil_of_length_eq_zero hl
  subst this
  exact hQ st a w μ hi h
 | o :: l, [], _, _, _, _, _, _, _, hl, _, _, _, _, _ => by simp at hl
 | o :: l, i :: is, st, K, r, a, w, μ, al, hl, hix, h, hi, ha, hQ => by
  rw [wpOps_cons]
  exact aop_step C hE (by have := hix 0 i rfl; simpa using this) h hi ha fun st' a' w' μ' al' hi' ha' h' => aops_sound C hE l is st' K r a' w' μ' al' (by simpa using hl) (fun j i' hj => hix (j + 1) i' (by simpa using hj)) h' hi' ha' hQ

end

end Go.Refl
