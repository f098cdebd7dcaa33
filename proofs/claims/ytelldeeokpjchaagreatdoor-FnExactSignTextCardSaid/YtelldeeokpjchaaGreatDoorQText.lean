/- The plain law of the texts of signs. -/
import Derived.Test.YtelldeeokpjchaaGreatDoorPAx11
import Derived.Test.YtelldeeokpjchaaGreatDoorPAx16
import Derived.Test.YtelldeeokpjchaaGreatDoorPAx6
import Derived.Test.YtelldeeokpjchaaGreatDoorQSigns
namespace Go.Proofs.YtelldeeokpjchaaGreatDoor.PA
open Go.RowKit Go.Proofs.YtelldeeokpjchaaGreatDoorW.PrintWords Go.Proofs.YtelldeeokpjchaaGreatDoorW.PrintLast Go.Proofs.YtelldeeokpjchaaGreatDoorW.PrintMore
set_option linter.unusedVariables false
set_option linter.unusedSimpArgs false
theorem ten (p : Int) (h : 0 ≤ p ∧ p < 10) : p = 0 ∨ p = 1 ∨ p = 2 ∨ p = 3 ∨ p = 4 ∨ p = 5 ∨ p = 6 ∨ p = 7 ∨ p = 8 ∨ p = 9 := by omega
theorem it_some (v : Int) (h : 0 ≤ v ∧ v < 10) : strconv_Itoa.f v = some (itT v) := by
  unfold strconv_Itoa.f; rw [if_pos (by omega)]
theorem it_size (v : Int) (h : 0 ≤ v ∧ v < 10) : (itT v).size = 1 := by
  rcases ten v h with rfl | rfl | rfl | rfl | rfl | rfl | rfl | rfl | rfl | rfl <;> kernel_rfl
theorem l1_ev (v : Int) (h : 0 ≤ v ∧ v < 10) : Ev (fun k => spec_l1Num.f k v) (itT v) := by
  refine Ev.step (f := fun _ => some (itT v)) (fun k => ?_) (Ev.now _)
  rcases ten v h with rfl | rfl | rfl | rfl | rfl | rfl | rfl | rfl | rfl | rfl <;> kernel_rfl
section
variable (t i m r l : Int) (s : Bool) (p f g d : Int) (c : Bool) (b : ByteArray) (n : Int) (w : Bool) (t' i' m' r' l' : Int) (s' : Bool) (p' f' g' d' : Int) (c' : Bool) (b' : ByteArray) (n' : Int)
/-- The text of a shape. -/
def shTxt : ByteArray := if s = true then ((((itT t ++ itT i) ++ itT m) ++ itT r) ++ itT l) ++ (⟨#[115]⟩ : ByteArray) else (((itT t ++ itT i) ++ itT m) ++ itT r) ++ itT l
theorem app_size (x y : ByteArray) : (x ++ y).size = x.size + y.size := ByteArray.size_append
theorem spec_sh_step (x : ByteArray) (L : List Int) (j : Nat) (hj : j < L.length) (hL : L.length ≤ 1000) (hv : 0 ≤ L[j] ∧ L[j] < 10) (hx : x.size ≤ 1000) {out : ByteArray}
    (h : Ev (fun k => spec_shText.l0 k (x ++ itT L[j]) L (L.length : Int) ((j + 1 : Nat) : Int) t i m r l s) out) : Ev (fun k => spec_shText.l0 k x L (L.length : Int) (j : Int) t i m r l s) out := by
  refine Ev.step (f := fun k => (spec_l1Num.f k L[j]).bind fun y => if x.size + y.size ≤ 9223372036854775807 then spec_shText.l0 k (x ++ y) L (L.length : Int) ((j + 1 : Nat) : Int) t i m r l s else none) (fun k => ?_) ?_
  · simp only [spec_shText.l0, w64_succ (show j < 9223372036854775807 by omega), rd_at L j hj]
    rw [if_pos (by omega), if_pos (by omega), if_pos (by omega)]
  · exact Ev.bind (l1_ev _ hv) (Ev.congr (fun k => if_pos (by rw [it_size _ hv]; omega)) h)
theorem impl_sh_step (x : ByteArray) (L : List Int) (j : Nat) (hj : j < L.length) (hL : L.length ≤ 1000) (hv : 0 ≤ L[j] ∧ L[j] < 10) (hx : x.size ≤ 1000) {out : ByteArray}
    (h : Ev (fun k => impl_Shape_text.l0 k (x ++ itT L[j]) L (L.length : Int) ((j + 1 : Nat) : Int) t i m r l s) out) : Ev (fun k => impl_Shape_text.l0 k x L (L.length : Int) (j : Int) t i m r l s) out := by
  refine Ev.step (f := fun k => impl_Shape_text.l0 k (x ++ itT L[j]) L (L.length : Int) ((j + 1 : Nat) : Int) t i m r l s) (fun k => ?_) h
  simp only [impl_Shape_text.l0, w64_succ (show j < 9223372036854775807 by omega), rd_at L j hj, it_some _ hv, Option.bind_some]
  rw [if_pos (by omega), if_pos (by omega), if_pos (by omega), if_pos (by rw [it_size _ hv]; omega)]
theorem spec_sh_end (x : ByteArray) (L : List Int) (j : Nat) (hj : L.length ≤ j) (hx : x.size ≤ 1000) : Ev (fun k => spec_shText.l0 k x L (L.length : Int) (j : Int) t i m r l s) (if s = true then x ++ (⟨#[115]⟩ : ByteArray) else x) := by
  refine Ev.step (f := fun k => some (if s = true then x ++ (⟨#[115]⟩ : ByteArray) else x)) (fun k => ?_) (Ev.now _)
  simp only [spec_shText.l0]
  rw [if_neg (by omega), if_pos (show x.size + 1 ≤ 9223372036854775807 by omega)]
  cases s <;> rfl
theorem impl_sh_end (x : ByteArray) (L : List Int) (j : Nat) (hj : L.length ≤ j) (hx : x.size ≤ 1000) : Ev (fun k => impl_Shape_text.l0 k x L (L.length : Int) (j : Int) t i m r l s) (if s = true then x ++ (⟨#[115]⟩ : ByteArray) else x) := by
  refine Ev.step (f := fun k => some (if s = true then x ++ (⟨#[115]⟩ : ByteArray) else x)) (fun k => ?_) (Ev.now _)
  simp only [impl_Shape_text.l0]
  rw [if_neg (by omega), if_pos (show x.size + 1 ≤ 9223372036854775807 by omega)]
  cases s <;> rfl
theorem shTxt_size (ht : 0 ≤ t ∧ t < 10) (hi : 0 ≤ i ∧ i < 10) (hm : 0 ≤ m ∧ m < 10) (hr : 0 ≤ r ∧ r < 10) (hl : 0 ≤ l ∧ l < 10) : (shTxt t i m r l s).size ≤ 6 := by
  unfold shTxt
  split <;> simp only [app_size, it_size _ ht, it_size _ hi, it_size _ hm, it_size _ hr, it_size _ hl] <;> decide
theorem spec_sh_ev (ht : 0 ≤ t ∧ t < 10) (hi : 0 ≤ i ∧ i < 10) (hm : 0 ≤ m ∧ m < 10) (hr : 0 ≤ r ∧ r < 10) (hl : 0 ≤ l ∧ l < 10) : Ev (fun k => spec_shText.f k t i m r l s) (shTxt t i m r l s) := by
  unfold spec_shText.f
  refine Ev.bind (l1_ev t ht) ?_
  simp only [spec_shFingers.f, Option.bind_some]
  have z := it_size
  refine spec_sh_step _ _ _ _ _ _ (itT t) [i, m, r, l] 0 (by simp) (by simp) hi (by rw [z _ ht]; decide) ?_
  refine spec_sh_step _ _ _ _ _ _ _ [i, m, r, l] 1 (by simp) (by simp) hm (by rw [app_size, z _ ht]; exact (by rw [show ([i, m, r, l] : List Int)[0] = i from rfl, z _ hi]; decide)) ?_
  refine spec_sh_step _ _ _ _ _ _ _ [i, m, r, l] 2 (by simp) (by simp) hr (by show ((itT t ++ itT i) ++ itT m).size ≤ 1000; rw [app_size, app_size, z _ ht, z _ hi, z _ hm]; decide) ?_
  refine spec_sh_step _ _ _ _ _ _ _ [i, m, r, l] 3 (by simp) (by simp) hl (by show (((itT t ++ itT i) ++ itT m) ++ itT r).size ≤ 1000; rw [app_size, app_size, app_size, z _ ht, z _ hi, z _ hm, z _ hr]; decide) ?_
  exact spec_sh_end _ _ _ _ _ _ ((((itT t ++ itT i) ++ itT m) ++ itT r) ++ itT l) [i, m, r, l] 4 (by simp) (by rw [app_size, app_size, app_size, app_size, z _ ht, z _ hi, z _ hm, z _ hr, z _ hl]; decide)
theorem impl_sh_ev (ht : 0 ≤ t ∧ t < 10) (hi : 0 ≤ i ∧ i < 10) (hm : 0 ≤ m ∧ m < 10) (hr : 0 ≤ r ∧ r < 10) (hl : 0 ≤ l ∧ l < 10) : Ev (fun k => impl_Shape_text.f k t i m r l s) (shTxt t i m r l s) := by
  unfold impl_Shape_text.f
  simp only [impl_Shape_bends.f, it_some _ ht, Option.bind_some]
  have z := it_size
  refine impl_sh_step _ _ _ _ _ _ (itT t) [i, m, r, l] 0 (by simp) (by simp) hi (by rw [z _ ht]; decide) ?_
  refine impl_sh_step _ _ _ _ _ _ _ [i, m, r, l] 1 (by simp) (by simp) hm (by show (itT t ++ itT i).size ≤ 1000; rw [app_size, z _ ht, z _ hi]; decide) ?_
  refine impl_sh_step _ _ _ _ _ _ _ [i, m, r, l] 2 (by simp) (by simp) hr (by show ((itT t ++ itT i) ++ itT m).size ≤ 1000; rw [app_size, app_size, z _ ht, z _ hi, z _ hm]; decide) ?_
  refine impl_sh_step _ _ _ _ _ _ _ [i, m, r, l] 3 (by simp) (by simp) hl (by show (((itT t ++ itT i) ++ itT m) ++ itT r).size ≤ 1000; rw [app_size, app_size, app_size, z _ ht, z _ hi, z _ hm, z _ hr]; decide) ?_
  exact impl_sh_end _ _ _ _ _ _ ((((itT t ++ itT i) ++ itT m) ++ itT r) ++ itT l) [i, m, r, l] 4 (by simp) (by rw [app_size, app_size, app_size, app_size, z _ ht, z _ hi, z _ hm, z _ hr, z _ hl]; decide)
/-- The text of an orientation. -/
def orTxt : ByteArray := ((⟨#[117, 100, 108, 114, 102, 98]⟩ : ByteArray).extract p.toNat (p.toNat + 1)) ++ ((⟨#[117, 100, 108, 114, 102, 98]⟩ : ByteArray).extract f.toNat (f.toNat + 1))
theorem or_txt (hp : 0 ≤ p ∧ p ≤ 5) (hf : 0 ≤ f ∧ f ≤ 5) : spec_orText.f p f = some (orTxt p f) ∧ impl_Orient_text.f p f = some (orTxt p f) ∧ (orTxt p f).size = 2 := by
  rcases six p hp with rfl | rfl | rfl | rfl | rfl | rfl <;> rcases six f hf with rfl | rfl | rfl | rfl | rfl | rfl <;> exact ⟨by kernel_rfl, by kernel_rfl, by kernel_rfl⟩
/-- The text of a place. -/
def plTxt : ByteArray := plNms.getD g.toNat ⟨#[]⟩ ++ plSide d ++ (if c = true then ⟨#[42]⟩ else ⟨#[]⟩)
theorem pl_txt (hg : 0 ≤ g ∧ g ≤ 9) (hd : -1 ≤ d ∧ d ≤ 1) : spec_plText.f g d c = some (plTxt g d c) ∧ impl_Place_text.f g d c = some (plTxt g d c) ∧ (plTxt g d c).size ≤ 7 := by
  refine ⟨?_, ?_, ?_⟩
  · rcases ten g (by omega) with rfl | rfl | rfl | rfl | rfl | rfl | rfl | rfl | rfl | rfl <;> rcases (show d = -1 ∨ d = 0 ∨ d = 1 by omega) with rfl | rfl | rfl <;> cases c <;> kernel_rfl
  · unfold impl_Place_text.f plTxt; rw [if_pos (by omega)]
  · rcases ten g (by omega) with rfl | rfl | rfl | rfl | rfl | rfl | rfl | rfl | rfl | rfl <;> rcases (show d = -1 ∨ d = 0 ∨ d = 1 by omega) with rfl | rfl | rfl <;> cases c <;> decide
/-- The text of a move. -/
def mvTxt : ByteArray := if b.toList = ([] : List UInt8) then (⟨#[45]⟩ : ByteArray) else if n > 1 then (b ++ (⟨#[42]⟩ : ByteArray)) ++ itT n else b
theorem mvTxt_size (hb : b.size ≤ 1000) (hn : 1 ≤ n ∧ n < 10) : (mvTxt b n).size ≤ 1002 := by
  unfold mvTxt
  split
  · decide
  · split
    · rw [app_size, app_size, it_size n (by omega)]
      have : (⟨#[42]⟩ : ByteArray).size = 1 := rfl
      omega
    · omega
theorem spec_mv_txt (hb : b.size ≤ 1000) (hn : 1 ≤ n ∧ n < 10) : Ev (fun k => spec_mvText.f k b n) (mvTxt b n) := by
  unfold spec_mvText.f mvTxt
  by_cases h : b.toList = ([] : List UInt8)
  · simp only [if_pos h]; exact Ev.now _
  · simp only [if_neg h]
    by_cases h2 : n > 1
    · simp only [if_pos h2, if_pos (show b.size + 1 ≤ 9223372036854775807 by omega)]
      refine Ev.bind (l1_ev n (by omega)) (Ev.congr (f := fun _ => some _) (fun k => if_pos ?_) (Ev.now _))
      rw [app_size, it_size n (by omega)]
      have : (⟨#[42]⟩ : ByteArray).size = 1 := rfl
      omega
    · simp only [if_neg h2]; exact Ev.now _
theorem impl_mv_txt (hb : b.size ≤ 1000) (hn : 1 ≤ n ∧ n < 10) : impl_Move_text.f b n = some (mvTxt b n) := by
  unfold impl_Move_text.f mvTxt
  by_cases h : b.toList = ([] : List UInt8)
  · simp only [if_pos h]
  · simp only [if_neg h]
    by_cases h2 : n > 1
    · have : (⟨#[42]⟩ : ByteArray).size = 1 := rfl
      rw [if_pos h2, if_neg (show ¬ n = 1 by omega), if_pos (by omega), it_some n (by omega)]
      simp only [Option.bind_some]
      rw [if_pos (by rw [app_size, it_size n (by omega)]; omega)]
    · rw [if_neg h2, if_pos (show n = 1 by omega)]
/-- The text of a hand. -/
def hdTxt : ByteArray := (((((shTxt t i m r l s ++ (⟨#[47]⟩ : ByteArray)) ++ orTxt p f) ++ (⟨#[47]⟩ : ByteArray)) ++ plTxt g d c) ++ (⟨#[47]⟩ : ByteArray)) ++ mvTxt b n
/-- What a hand's text needs. -/
def TxOK : Prop := ((0 ≤ t ∧ t < 10) ∧ (0 ≤ i ∧ i < 10) ∧ (0 ≤ m ∧ m < 10) ∧ (0 ≤ r ∧ r < 10) ∧ (0 ≤ l ∧ l < 10)) ∧ ((0 ≤ p ∧ p ≤ 5) ∧ (0 ≤ f ∧ f ≤ 5)) ∧ ((0 ≤ g ∧ g ≤ 9) ∧ (-1 ≤ d ∧ d ≤ 1)) ∧ b.size ≤ 1000 ∧ (1 ≤ n ∧ n < 10)
theorem hdOK_tx (h : hdOK t i m r l s p f g d c b n = true) : TxOK t i m r l p f g d b n := by
  unfold hdOK at h
  rw [Bool.and_eq_true, Bool.and_eq_true, Bool.and_eq_true] at h
  obtain ⟨h1, h2, h3, h4⟩ := h
  have a := shOK_in h1
  have e := mvOK_parts h4
  unfold orOK at h2
  unfold plOK at h3
  rw [Bool.and_eq_true, Bool.and_eq_true, decide_eq_true_eq, decide_eq_true_eq] at h2
  rw [Bool.and_eq_true, Bool.and_eq_true, decide_eq_true_eq, decide_eq_true_eq] at h3
  exact ⟨⟨by omega, by omega, by omega, by omega, by omega⟩, ⟨h2.1, h2.2.1⟩, ⟨h3.1, h3.2.1⟩, by omega, by omega⟩
theorem hdTxt_size (h : TxOK t i m r l p f g d b n) : (hdTxt t i m r l s p f g d c b n).size ≤ 1100 := by
  obtain ⟨⟨h1, h2, h3, h4, h5⟩, ⟨h6, h7⟩, ⟨h8, h9⟩, h10, h11⟩ := h
  have a := shTxt_size t i m r l s h1 h2 h3 h4 h5
  have e := (or_txt p f h6 h7).2.2
  have e2 := (pl_txt g d c h8 h9).2.2
  have e3 := mvTxt_size b n h10 h11
  have : (⟨#[47]⟩ : ByteArray).size = 1 := rfl
  unfold hdTxt
  simp only [app_size]
  omega
theorem spec_hd_txt (h : TxOK t i m r l p f g d b n) : Ev (fun k => spec_siText.f k t i m r l s p f g d c b n) (hdTxt t i m r l s p f g d c b n) := by
  obtain ⟨⟨h1, h2, h3, h4, h5⟩, ⟨h6, h7⟩, ⟨h8, h9⟩, h10, h11⟩ := h
  have a := shTxt_size t i m r l s h1 h2 h3 h4 h5
  obtain ⟨e1, _, e⟩ := or_txt p f h6 h7
  obtain ⟨e4, _, e2⟩ := pl_txt g d c h8 h9
  have e3 := mvTxt_size b n h10 h11
  have z : (⟨#[47]⟩ : ByteArray).size = 1 := rfl
  unfold spec_siText.f hdTxt
  refine Ev.bind (spec_sh_ev t i m r l s h1 h2 h3 h4 h5) ?_
  simp only [e1, e4, Option.bind_some]
  generalize shTxt t i m r l s = A at a ⊢
  generalize orTxt p f = B at e ⊢
  generalize plTxt g d c = C at e2 ⊢
  have q := spec_mv_txt b n h10 h11
  generalize mvTxt b n = D at e3 q ⊢
  simp only [app_size, z, e, if_pos (show A.size + 1 ≤ 9223372036854775807 by omega), if_pos (show A.size + 1 + 2 ≤ 9223372036854775807 by omega), if_pos (show A.size + 1 + 2 + 1 ≤ 9223372036854775807 by omega), if_pos (show A.size + 1 + 2 + 1 + C.size ≤ 9223372036854775807 by omega), if_pos (show A.size + 1 + 2 + 1 + C.size + 1 ≤ 9223372036854775807 by omega)]
  exact Ev.bind q (Ev.congr (f := fun _ => some _) (fun k => if_pos (by omega)) (Ev.now _))
theorem join4 (A B C D : ByteArray) : Lib.join ([A, B, C, D].map (·.data.toList)) (⟨#[47]⟩ : ByteArray).data.toList = ((((((A ++ (⟨#[47]⟩ : ByteArray)) ++ B) ++ (⟨#[47]⟩ : ByteArray)) ++ C) ++ (⟨#[47]⟩ : ByteArray)) ++ D).data.toList := by
  simp [Lib.join, Lib.joinTail]
theorem join4_some (A B C D : ByteArray) (h : A.size + B.size + C.size + D.size ≤ 10000) : strings_Join.f [A, B, C, D] (⟨#[47]⟩ : ByteArray) = some (((((((A ++ (⟨#[47]⟩ : ByteArray)) ++ B) ++ (⟨#[47]⟩ : ByteArray)) ++ C) ++ (⟨#[47]⟩ : ByteArray)) ++ D)) := by
  unfold strings_Join.f
  rw [join4]
  have z : (⟨#[47]⟩ : ByteArray).size = 1 := rfl
  have e : ∀ X : ByteArray, X.data.toList.length = X.size := fun X => Array.length_toList
  rw [if_pos ⟨by simp, by rw [e]; simp only [app_size, z]; omega⟩]
theorem impl_hd_txt (h : TxOK t i m r l p f g d b n) : Ev (fun k => impl_Hand_text.f k t i m r l s p f g d c b n) (hdTxt t i m r l s p f g d c b n) := by
  have hz := hdTxt_size t i m r l s p f g d c b n h
  obtain ⟨⟨h1, h2, h3, h4, h5⟩, ⟨h6, h7⟩, ⟨h8, h9⟩, h10, h11⟩ := h
  unfold impl_Hand_text.f
  refine Ev.bind (impl_sh_ev t i m r l s h1 h2 h3 h4 h5) ?_
  simp only [(or_txt p f h6 h7).2.1, (pl_txt g d c h8 h9).2.1, impl_mv_txt b n h10 h11, Option.bind_some]
  unfold hdTxt at hz ⊢
  simp only [app_size] at hz
  rw [join4_some _ _ _ _ (by omega)]
  exact Ev.now _
/-- The text of a sign. -/
def sgTxt : ByteArray := if w = true then (hdTxt t i m r l s p f g d c b n ++ (⟨#[43]⟩ : ByteArray)) ++ hdTxt t' i' m' r' l' s' p' f' g' d' c' b' n' else hdTxt t i m r l s p f g d c b n
theorem spec_sg_txt (h : TxOK t i m r l p f g d b n) (h' : w = true → TxOK t' i' m' r' l' p' f' g' d' b' n') : Ev (fun k => spec_paText.f k t i m r l s p f g d c b n w t' i' m' r' l' s' p' f' g' d' c' b' n') (sgTxt t i m r l s p f g d c b n w t' i' m' r' l' s' p' f' g' d' c' b' n') := by
  unfold spec_paText.f sgTxt
  have z := hdTxt_size t i m r l s p f g d c b n h
  cases w
  · simp only [Bool.false_eq_true, if_false]
    exact Ev.bind (spec_hd_txt t i m r l s p f g d c b n h) (Ev.now _)
  · have z' := hdTxt_size t' i' m' r' l' s' p' f' g' d' c' b' n' (h' rfl)
    simp only [if_true]
    have q := spec_hd_txt t i m r l s p f g d c b n h
    have q' := spec_hd_txt t' i' m' r' l' s' p' f' g' d' c' b' n' (h' rfl)
    generalize hdTxt t i m r l s p f g d c b n = A at z q ⊢
    generalize hdTxt t' i' m' r' l' s' p' f' g' d' c' b' n' = B at z' q' ⊢
    have y : (⟨#[43]⟩ : ByteArray).size = 1 := rfl
    refine Ev.bind q (Ev.congr (fun k => if_pos (by omega)) (Ev.bind q' (Ev.congr (f := fun _ => some _) (fun k => if_pos (by rw [app_size]; omega)) (Ev.now _))))
theorem impl_sg_txt (h : TxOK t i m r l p f g d b n) (h' : w = true → TxOK t' i' m' r' l' p' f' g' d' b' n') : Ev (fun k => impl_Sign_text.f k t i m r l s p f g d c b n w t' i' m' r' l' s' p' f' g' d' c' b' n') (sgTxt t i m r l s p f g d c b n w t' i' m' r' l' s' p' f' g' d' c' b' n') := by
  unfold impl_Sign_text.f sgTxt
  have z := hdTxt_size t i m r l s p f g d c b n h
  cases w
  · simp only [Bool.false_eq_true, if_false]
    exact Ev.bind (impl_hd_txt t i m r l s p f g d c b n h) (Ev.now _)
  · have z' := hdTxt_size t' i' m' r' l' s' p' f' g' d' c' b' n' (h' rfl)
    simp only [if_true]
    have q := impl_hd_txt t i m r l s p f g d c b n h
    have q' := impl_hd_txt t' i' m' r' l' s' p' f' g' d' c' b' n' (h' rfl)
    generalize hdTxt t i m r l s p f g d c b n = A at z q ⊢
    generalize hdTxt t' i' m' r' l' s' p' f' g' d' c' b' n' = B at z' q' ⊢
    have y : (⟨#[43]⟩ : ByteArray).size = 1 := rfl
    refine Ev.bind q (Ev.congr (fun k => if_pos (by omega)) (Ev.bind q' (Ev.congr (f := fun _ => some _) (fun k => if_pos (by rw [app_size]; omega)) (Ev.now _))))
theorem sgOK_tx (h : sgOK t i m r l s p f g d c b n w t' i' m' r' l' s' p' f' g' d' c' b' n' = true) : TxOK t i m r l p f g d b n ∧ (w = true → TxOK t' i' m' r' l' p' f' g' d' b' n') := by
  unfold sgOK at h
  rw [Bool.and_eq_true] at h
  refine ⟨hdOK_tx t i m r l s p f g d c b n h.1, fun e => ?_⟩
  subst e
  have h2 := h.2
  simp only [if_true, Bool.and_eq_true] at h2
  exact hdOK_tx t' i' m' r' l' s' p' f' g' d' c' b' n' h2.1
end
end Go.Proofs.YtelldeeokpjchaaGreatDoor.PA
