/- The plain law of normal forms: the reference's search finds what the program's does. -/
import Derived.Test.YtndipmdabphgcaaPAx4
import Derived.Test.YtndipmdabphgcaaQMove
namespace Go.Proofs.Ytndipmdabphgcaa.PA
open Go.RowKit Go.Proofs.YtndipmdabphgcaaW.PrintWords Go.Proofs.YtndipmdabphgcaaW.PrintLast Go.Proofs.YtndipmdabphgcaaW.PrintMore
set_option linter.unusedVariables false
set_option linter.unusedSimpArgs false

/-- Are the first n letters, t times, the text? -/
def PN (s : ByteArray) (n t : Nat) : Prop := (rep (s.extract 0 n) t).toList = s.toList
theorem ext_size (s : ByteArray) (n : Nat) (h : n ≤ s.size) : (s.extract 0 n).size = n := by rw [ByteArray.size_extract]; omega
theorem bs_toList_inj {a b : ByteArray} (h : a.toList = b.toList) : a = b := by
  rw [ByteArray.toList_eq, ByteArray.toList_eq] at h
  exact bs_ext h
theorem PN_size {s : ByteArray} {n t : Nat} (h : n ≤ s.size) (hp : PN s n t) : t * n = s.size := by
  have := congrArg ByteArray.size (bs_toList_inj hp)
  rwa [rep_size, ext_size s n h] at this
theorem moRep_eq (s : ByteArray) (r : Nat) : moRep s r = rep (moCut s r) r := rfl
theorem moHit_iff (s : ByteArray) (r : Nat) : moHit s r = true ↔ (s.size / r ≤ 6 ∧ PN s (s.size / r) r) := by
  unfold moHit
  have h1 : (moCut s r).size = s.size / r := by rw [moCut_size]; have := Nat.div_le_self s.size r; omega
  rw [Bool.and_eq_true, decide_eq_true_eq, beq_iff_eq, h1]
  rfl
theorem of_step (s : ByteArray) (hs : s.size ≤ 1000) {n t : Nat} (h1 : 1 ≤ t) (h3 : t ≤ 3) (hn : n ≤ s.size) (hm : ¬ PN s n t) {v : ByteArray × Int × Bool} (h : Ev (fun k => spec_mvOf.l1 k s (n : Int) ((t + 1 : Nat) : Int)) v) : Ev (fun k => spec_mvOf.l1 k s (n : Int) (t : Int)) v := by
  refine Ev.step (f := fun k => (spec_mvTimes.f k (s.extract 0 n) (t : Int)).bind fun z => if z.toList = s.toList then some (s.extract 0 n, (t : Int), true) else spec_mvOf.l1 k s (n : Int) ((t + 1 : Nat) : Int)) (fun k => ?_) ?_
  · simp only [spec_mvOf.l1]
    rw [if_pos (by omega), if_pos (by omega), if_pos (by omega), w64_succ (by omega)]
    rfl
  · have hsz := ext_size s n hn
    have hle : t * n ≤ 3 * 1000 := Nat.mul_le_mul h3 (by omega)
    refine Ev.bind (spec_mvTimes_ev (s.extract 0 n) t (by omega) (by rw [hsz]; omega)) ?_
    exact Ev.congr (fun k => if_neg hm) h
theorem of_hit (s : ByteArray) (hs : s.size ≤ 1000) {n t : Nat} (h1 : 1 ≤ t) (h3 : t ≤ 3) (hn : n ≤ s.size) (hm : PN s n t) : Ev (fun k => spec_mvOf.l1 k s (n : Int) (t : Int)) (s.extract 0 n, (t : Int), true) := by
  refine Ev.step (f := fun k => (spec_mvTimes.f k (s.extract 0 n) (t : Int)).bind fun z => if z.toList = s.toList then some (s.extract 0 n, (t : Int), true) else spec_mvOf.l1 k s (n : Int) ((t + 1 : Nat) : Int)) (fun k => ?_) ?_
  · simp only [spec_mvOf.l1]
    rw [if_pos (by omega), if_pos (by omega), if_pos (by omega), w64_succ (by omega)]
    rfl
  · have hsz := ext_size s n hn
    have hle : t * n ≤ 3 * 1000 := Nat.mul_le_mul h3 (by omega)
    refine Ev.bind (spec_mvTimes_ev (s.extract 0 n) t (by omega) (by rw [hsz]; omega)) ?_
    exact Ev.congr (fun k => if_pos hm) (Ev.now _)
theorem of_next (s : ByteArray) (hs : s.size ≤ 1000) {n : Nat} (hn : n ≤ 1000) {v : ByteArray × Int × Bool} (h : Ev (fun k => spec_mvOf.l0 k s ((n + 1 : Nat) : Int)) v) : Ev (fun k => spec_mvOf.l1 k s (n : Int) 4) v := by
  refine Ev.step (fun k => ?_) h
  simp only [spec_mvOf.l1]
  rw [if_neg (by omega), w64_succ (by omega)]
theorem of_enter (s : ByteArray) (hs : s.size ≤ 1000) {n : Nat} (h6 : n ≤ 6) (hn : n ≤ s.size) {v : ByteArray × Int × Bool} (h : Ev (fun k => spec_mvOf.l1 k s (n : Int) 1) v) : Ev (fun k => spec_mvOf.l0 k s (n : Int)) v := by
  refine Ev.step (f := fun k => spec_mvOf.j1 k s (n : Int) true) (fun k => ?_) ?_
  · simp only [spec_mvOf.l0]
    rw [if_pos (by omega), decide_eq_true (show (n : Int) ≤ (s.size : Int) by omega)]
  · refine Ev.step (fun k => ?_) h
    simp only [spec_mvOf.j1, if_true]
theorem of_leave (s : ByteArray) (hs : s.size ≤ 1000) {n : Nat} (h6 : ¬ (n ≤ 6 ∧ n ≤ s.size)) : Ev (fun k => spec_mvOf.l0 k s (n : Int)) (⟨#[]⟩, 0, false) := by
  refine Ev.step (f := fun k => spec_mvOf.j1 k s (n : Int) false) (fun k => ?_) ?_
  · simp only [spec_mvOf.l0]
    by_cases h : n ≤ 6
    · rw [if_pos (by omega), decide_eq_false (show ¬ (n : Int) ≤ (s.size : Int) by omega)]
    · rw [if_neg (by omega)]
  · refine Ev.step (f := fun _ => some (⟨#[]⟩, 0, false)) (fun k => ?_) (Ev.now _)
    simp only [spec_mvOf.j1, Bool.false_eq_true, if_false]
theorem of_row (s : ByteArray) (hs : s.size ≤ 1000) {n : Nat} (h6 : n ≤ 6) (hn : n ≤ s.size) (hm : ∀ t, 1 ≤ t → t ≤ 3 → ¬ PN s n t) {v : ByteArray × Int × Bool} (h : Ev (fun k => spec_mvOf.l0 k s ((n + 1 : Nat) : Int)) v) : Ev (fun k => spec_mvOf.l0 k s (n : Int)) v :=
  of_enter s hs h6 hn (of_step s hs (t := 1) (by omega) (by omega) hn (hm 1 (by omega) (by omega)) (of_step s hs (t := 2) (by omega) (by omega) hn (hm 2 (by omega) (by omega)) (of_step s hs (t := 3) (by omega) (by omega) hn (hm 3 (by omega) (by omega)) (of_next s hs (by omega) h))))
theorem of_rows (s : ByteArray) (hs : s.size ≤ 1000) {m : Nat} (h6 : m ≤ 7) (hn : m ≤ s.size + 1) (hm : ∀ n t, 1 ≤ n → n < m → 1 ≤ t → t ≤ 3 → ¬ PN s n t) {v : ByteArray × Int × Bool} (h : Ev (fun k => spec_mvOf.l0 k s (m : Int)) v) : ∀ d n, m - n = d → 1 ≤ n → n ≤ m → Ev (fun k => spec_mvOf.l0 k s (n : Int)) v := by
  intro d
  induction d with
  | zero => intro n hd h1 hle; (obtain rfl : n = m := (by omega)); exact h
  | succ d ih => intro n hd h1 hle; exact of_row s hs (by omega) (by omega) (fun t a b => hm n t h1 (by omega) a b) (ih (n + 1) (by omega) (by omega) (by omega))
theorem spec_mvOf_ev (s : ByteArray) (hs : s.size ≤ 1000) : Ev (fun k => spec_mvOf.f k s) (moV s) := by
  unfold spec_mvOf.f moV
  by_cases he : s.toList = []
  · rw [if_pos he]
    exact Ev.congr (f := fun _ => some _) (fun k => if_pos he) (Ev.now _)
  · rw [if_neg he]
    refine Ev.congr (fun k => if_neg he) ?_
    have hpos : 0 < s.size := by
      rcases Nat.eq_zero_or_pos s.size with h | h
      · exfalso; apply he
        rw [ByteArray.toList_eq]
        have : s.data.toList.length = 0 := by rw [Array.length_toList]; exact h
        exact List.eq_nil_of_length_eq_zero this
      · exact h
    have hh := fun r => moHit_iff s r
    by_cases h3 : moHit s 3 = true
    · rw [if_pos h3]
      obtain ⟨h36, p3⟩ := (hh 3).1 h3
      have z3 := PN_size (Nat.div_le_self _ _) p3
      refine of_rows s hs (m := s.size / 3) (by omega) (by omega) (fun n t a b c d hp => ?_) ?_ (s.size / 3 - 1) 1 rfl (by omega) (by omega)
      · have z := PN_size (by omega) hp
        have : t = 1 ∨ t = 2 ∨ t = 3 := by omega
        rcases this with rfl | rfl | rfl <;> omega
      · refine of_enter s hs h36 (by omega) (of_step s hs (t := 1) (by omega) (by omega) (by omega) (fun hp => ?_) (of_step s hs (t := 2) (by omega) (by omega) (by omega) (fun hp => ?_) (of_hit s hs (t := 3) (by omega) (by omega) (by omega) p3)))
        · have z := PN_size (by omega) hp; omega
        · have z := PN_size (by omega) hp; omega
    · rw [if_neg h3]
      have n3 : ∀ n, 1 ≤ n → n ≤ 6 → n ≤ s.size → ¬ PN s n 3 := fun n a b c hp => h3 ((hh 3).2 (by
        have z := PN_size c hp
        have e : s.size / 3 = n := by omega
        rw [e]; exact ⟨b, hp⟩))
      by_cases h2 : moHit s 2 = true
      · rw [if_pos h2]
        obtain ⟨h26, p2⟩ := (hh 2).1 h2
        have z2 := PN_size (Nat.div_le_self _ _) p2
        refine of_rows s hs (m := s.size / 2) (by omega) (by omega) (fun n t a b c d hp => ?_) ?_ (s.size / 2 - 1) 1 rfl (by omega) (by omega)
        · have z := PN_size (by omega) hp
          have : t = 1 ∨ t = 2 ∨ t = 3 := by omega
          rcases this with rfl | rfl | rfl
          · omega
          · omega
          · exact n3 n a (by omega) (by omega) hp
        · refine of_enter s hs h26 (by omega) (of_step s hs (t := 1) (by omega) (by omega) (by omega) (fun hp => ?_) (of_hit s hs (t := 2) (by omega) (by omega) (by omega) p2))
          have z := PN_size (by omega) hp; omega
      · rw [if_neg h2]
        have n2 : ∀ n, 1 ≤ n → n ≤ 6 → n ≤ s.size → ¬ PN s n 2 := fun n a b c hp => h2 ((hh 2).2 (by
          have z := PN_size c hp
          have e : s.size / 2 = n := by omega
          rw [e]; exact ⟨b, hp⟩))
        by_cases h1 : moHit s 1 = true
        · rw [if_pos h1]
          obtain ⟨h16, p1⟩ := (hh 1).1 h1
          rw [Nat.div_one] at h16 p1
          have e : moCut s 1 = s.extract 0 s.size := by unfold moCut; rw [Nat.div_one]
          rw [e]
          refine of_rows s hs (m := s.size) (by omega) (by omega) (fun n t a b c d hp => ?_) ?_ (s.size - 1) 1 rfl (by omega) (by omega)
          · have z := PN_size (by omega) hp
            have : t = 1 ∨ t = 2 ∨ t = 3 := by omega
            rcases this with rfl | rfl | rfl
            · omega
            · exact n2 n a (by omega) (by omega) hp
            · exact n3 n a (by omega) (by omega) hp
          · exact of_enter s hs h16 (by omega) (of_hit s hs (t := 1) (by omega) (by omega) (by omega) p1)
        · rw [if_neg h1]
          have n1 : ∀ n, 1 ≤ n → n ≤ 6 → n ≤ s.size → ¬ PN s n 1 := fun n a b c hp => h1 ((hh 1).2 (by
            have z := PN_size c hp
            have e : s.size / 1 = n := by omega
            rw [e]; exact ⟨b, hp⟩))
          refine of_rows s hs (m := min 6 s.size + 1) (by omega) (by omega) (fun n t a b c d hp => ?_) (of_leave s hs (by omega)) (min 6 s.size) 1 (by omega) (by omega) (by omega)
          have : t = 1 ∨ t = 2 ∨ t = 3 := by omega
          rcases this with rfl | rfl | rfl
          · exact n1 n a (by omega) (by omega) hp
          · exact n2 n a (by omega) (by omega) hp
          · exact n3 n a (by omega) (by omega) hp
theorem impl_moveOf_eq (s : ByteArray) (hs : s.size ≤ 1000) : impl_moveOf.f s = some (moV s) := by
  unfold impl_moveOf.f
  rw [if_pos (by omega)]
end Go.Proofs.Ytndipmdabphgcaa.PA
