/- The plain law of EditText. -/
import Derived.Test.YtmmpnigbfiebbaaDoorPAx1
import Derived.Test.YtmmpnigbfiebbaaDoorQGloss
namespace Go.Proofs.YtmmpnigbfiebbaaDoor.PA
open Go.RowKit Go.Proofs.YtmmpnigbfiebbaaDoorW.PrintWords Go.Proofs.YtmmpnigbfiebbaaDoorW.PrintLast Go.Proofs.YtmmpnigbfiebbaaDoorW.PrintMore
set_option linter.unusedVariables false
set_option linter.unusedSimpArgs false
theorem de_in {a0 a1 : Int} {a2 a3 : ByteArray} (h : deV a0 a1 a2 a3 = true) : 0 ≤ a1 ∧ a1 ≤ 20 := by
  unfold deV at h
  by_cases e : 0 ≤ a1 ∧ a1 ≤ 20
  · exact e
  · rw [if_neg (by simpa using e)] at h; cases h
theorem num21 : ∀ n : Fin 21, spec_l1Num.f 3 (n.val : Int) = some (itT (n.val : Int)) := by decide +kernel
theorem num_size : ∀ n : Fin 21, (itT (n.val : Int)).size ≤ 2 := by decide +kernel
theorem num_ev {a : Int} (h : 0 ≤ a ∧ a ≤ 20) : Ev (fun k => spec_l1Num.f k a) (itT a) ∧ (itT a).size ≤ 2 := by
  obtain ⟨n, rfl⟩ : ∃ n : Fin 21, a = (n.val : Int) := ⟨⟨a.toNat, by omega⟩, by simp; omega⟩
  exact ⟨Ev.of (fun k => spec_l1Num.mono _ _) (num21 n), num_size n⟩
theorem itoa_val {a : Int} (h : 0 ≤ a ∧ a ≤ 20) : strconv_Itoa.f a = some (itT a) := if_pos ⟨h.1, by omega⟩
theorem EditText_same (a0 a1 : Int) (a2 a3 : ByteArray) (h2 : a2.size ≤ 1048576) (h3 : a3.size ≤ 1048576) : ∃ v, Ev (fun k => spec_EditText.f k a0 a1 a2 a3) v ∧ Ev (fun k => impl_EditText.f k a0 a1 a2 a3) v := by
  have S := spec_unEdit_ev a0 a1 a2 a3 (by omega) (by omega)
  have I := impl_isDeskEdit_ev a0 a1 a2 a3 (by omega) (by omega)
  by_cases hd : deV a0 a1 a2 a3 = true
  · have hi := de_in hd
    obtain ⟨hN, hz⟩ := num_ev hi
    have hI := itoa_val hi
    rw [hd] at S I
    generalize itT a1 = T at hN hz hI
    have p1 : wrap64 (0 + 1) = 1 := w64_i (by decide) (by decide)
    have p2 : wrap64 (1 + 1) = 2 := w64_i (by decide) (by decide)
    have p3 : wrap64 (2 + 1) = 3 := w64_i (by decide) (by decide)
    have x0 : (⟨#[43, 45, 61]⟩ : ByteArray).extract (0 : Int).toNat (1 : Int).toNat = ⟨#[43]⟩ := by decide
    have x1 : (⟨#[43, 45, 61]⟩ : ByteArray).extract (1 : Int).toNat (2 : Int).toNat = ⟨#[45]⟩ := by decide
    have x2 : (⟨#[43, 45, 61]⟩ : ByteArray).extract (2 : Int).toNat (3 : Int).toNat = ⟨#[61]⟩ := by decide
    have z1 : (⟨#[43]⟩ : ByteArray).size = 1 := rfl
    have z2 : (⟨#[45]⟩ : ByteArray).size = 1 := rfl
    have z3 : (⟨#[61]⟩ : ByteArray).size = 1 := rfl
    have z4 : (⟨#[32]⟩ : ByteArray).size = 1 := rfl
    have z5 : (⟨#[62]⟩ : ByteArray).size = 1 := rfl
    rcases deV_kind hd with rfl | rfl | rfl
    · refine ⟨((⟨#[43]⟩ : ByteArray) ++ (T ++ (⟨#[32]⟩ : ByteArray)) ++ a2, true), ?_, ?_⟩
      · unfold spec_EditText.f
        refine Ev.bind S ?_
        simp only [p1, x0, if_true]
        refine Ev.congr (fun k => by rw [if_pos (by decide), if_pos (by decide), if_pos (by decide)]) ?_
        refine Ev.bind hN ?_
        refine Ev.congr (f := fun _ => some ((⟨#[43]⟩ : ByteArray) ++ (T ++ (⟨#[32]⟩ : ByteArray)) ++ a2, true)) (fun k => ?_) (Ev.now _)
        rw [if_pos (by omega), if_pos (by simp only [ByteArray.size_append]; omega), if_pos (by simp only [ByteArray.size_append]; omega), ByteArray.append_assoc (a := (⟨#[43]⟩ : ByteArray)) (b := T)]
      · unfold impl_EditText.f
        refine Ev.bind I ?_
        refine Ev.congr (f := fun _ => some ((⟨#[43]⟩ : ByteArray) ++ (T ++ (⟨#[32]⟩ : ByteArray)) ++ a2, true)) (fun k => ?_) (Ev.now _)
        rw [if_pos rfl, hI, Option.bind_some, if_pos (by omega), if_pos rfl, if_pos (by simp only [ByteArray.size_append]; omega), if_pos (by simp only [ByteArray.size_append]; omega)]
    · refine ⟨((⟨#[45]⟩ : ByteArray) ++ (T ++ (⟨#[32]⟩ : ByteArray)) ++ a3, true), ?_, ?_⟩
      · unfold spec_EditText.f
        refine Ev.bind S ?_
        simp only [p2, x1, if_true]
        refine Ev.congr (fun k => by rw [if_pos (by decide), if_pos (by decide), if_pos (by decide)]) ?_
        refine Ev.bind hN ?_
        refine Ev.congr (f := fun _ => some ((⟨#[45]⟩ : ByteArray) ++ (T ++ (⟨#[32]⟩ : ByteArray)) ++ a3, true)) (fun k => ?_) (Ev.now _)
        rw [if_pos (by omega), if_pos (by simp only [ByteArray.size_append]; omega), if_neg (by decide), if_pos (by simp only [ByteArray.size_append]; omega), ByteArray.append_assoc (a := (⟨#[45]⟩ : ByteArray)) (b := T)]
      · unfold impl_EditText.f
        refine Ev.bind I ?_
        refine Ev.congr (f := fun _ => some ((⟨#[45]⟩ : ByteArray) ++ (T ++ (⟨#[32]⟩ : ByteArray)) ++ a3, true)) (fun k => ?_) (Ev.now _)
        rw [if_pos rfl, hI, Option.bind_some, if_pos (by omega), if_neg (by decide), if_pos rfl, if_pos (by simp only [ByteArray.size_append]; omega), if_pos (by simp only [ByteArray.size_append]; omega)]
    · refine ⟨((⟨#[61]⟩ : ByteArray) ++ (T ++ (⟨#[32]⟩ : ByteArray)) ++ a3 ++ (⟨#[62]⟩ : ByteArray) ++ a2, true), ?_, ?_⟩
      · unfold spec_EditText.f
        refine Ev.bind S ?_
        simp only [p3, x2, if_true]
        refine Ev.congr (fun k => by rw [if_pos (by decide), if_pos (by decide), if_pos (by decide)]) ?_
        refine Ev.bind hN ?_
        refine Ev.congr (f := fun _ => some ((⟨#[61]⟩ : ByteArray) ++ (T ++ (⟨#[32]⟩ : ByteArray)) ++ a3 ++ (⟨#[62]⟩ : ByteArray) ++ a2, true)) (fun k => ?_) (Ev.now _)
        rw [if_pos (by omega), if_pos (by simp only [ByteArray.size_append]; omega), if_neg (by decide), if_neg (by decide), if_pos (by omega), if_pos (by simp only [ByteArray.size_append]; omega), if_pos (by simp only [ByteArray.size_append]; omega)]
        simp only [ByteArray.append_assoc]
      · unfold impl_EditText.f
        refine Ev.bind I ?_
        refine Ev.congr (f := fun _ => some ((⟨#[61]⟩ : ByteArray) ++ (T ++ (⟨#[32]⟩ : ByteArray)) ++ a3 ++ (⟨#[62]⟩ : ByteArray) ++ a2, true)) (fun k => ?_) (Ev.now _)
        rw [if_pos rfl, hI, Option.bind_some, if_pos (by omega), if_neg (by decide), if_neg (by decide), if_pos (by simp only [ByteArray.size_append]; omega), if_pos (by simp only [ByteArray.size_append]; omega), if_pos (by simp only [ByteArray.size_append]; omega), if_pos (by simp only [ByteArray.size_append]; omega)]
  · rw [Bool.eq_false_iff.mpr hd] at S I
    refine ⟨(⟨#[]⟩, false), ?_, ?_⟩
    · unfold spec_EditText.f
      refine Ev.bind S ?_
      simp only [Bool.false_eq_true, if_false]
      exact Ev.now _
    · unfold impl_EditText.f
      refine Ev.bind I ?_
      simp only [Bool.false_eq_true, if_false]
      exact Ev.now _
end Go.Proofs.YtmmpnigbfiebbaaDoor.PA
