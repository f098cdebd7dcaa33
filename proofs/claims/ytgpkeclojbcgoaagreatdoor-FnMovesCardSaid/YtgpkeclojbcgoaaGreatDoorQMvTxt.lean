/- Texts of movements: the program's and the reference's are the same. -/
import Derived.Test.YtgpkeclojbcgoaaGreatDoorPAx2
import Derived.Test.YtgpkeclojbcgoaaGreatDoorQMoves
namespace Go.Proofs.YtgpkeclojbcgoaaGreatDoor.PA
open Go.RowKit Go.Proofs.YtgpkeclojbcgoaaGreatDoorW.PrintWords Go.Proofs.YtgpkeclojbcgoaaGreatDoorW.PrintLast Go.Proofs.YtgpkeclojbcgoaaGreatDoorW.PrintMore
set_option linter.unusedVariables false
set_option linter.unusedSimpArgs false
theorem ten (p : Int) (h : 0 ≤ p ∧ p < 10) : p = 0 ∨ p = 1 ∨ p = 2 ∨ p = 3 ∨ p = 4 ∨ p = 5 ∨ p = 6 ∨ p = 7 ∨ p = 8 ∨ p = 9 := by omega
theorem it_some (v : Int) (h : 0 ≤ v ∧ v < 10) : strconv_Itoa.f v = some (itT v) := by
  unfold strconv_Itoa.f; rw [if_pos (by omega)]
theorem it_size (v : Int) (h : 0 ≤ v ∧ v < 10) : (itT v).size = 1 := by
  rcases ten v h with rfl | rfl | rfl | rfl | rfl | rfl | rfl | rfl | rfl | rfl <;> kernel_rfl
theorem l1_ev (v : Int) (h : 0 ≤ v ∧ v < 10) : Ev (fun k => spec_l1Num.f k v) (itT v) := by
  refine Ev.step (f := fun _ => some (itT v)) (fun k => ?_) (Ev.now _)
  rcases ten v h with rfl | rfl | rfl | rfl | rfl | rfl | rfl | rfl | rfl | rfl <;> kernel_rfl
theorem app_size (x y : ByteArray) : (x ++ y).size = x.size + y.size := ByteArray.size_append
variable (b : ByteArray) (n : Int)
def mvTxt : ByteArray := if b.toList = ([] : List UInt8) then (⟨#[45]⟩ : ByteArray) else if n > 1 then (b ++ (⟨#[42]⟩ : ByteArray)) ++ itT n else b
theorem mvTxt_size (hb : b.size ≤ 1000) (hn : b.toList = [] ∨ (1 ≤ n ∧ n < 10)) : (mvTxt b n).size ≤ 1002 := by
  unfold mvTxt
  split
  · decide
  · rename_i h0
    have hn := hn.resolve_left h0
    split
    · rw [app_size, app_size, it_size n (by omega)]
      have : (⟨#[42]⟩ : ByteArray).size = 1 := rfl
      omega
    · omega
theorem spec_mv_txt (hb : b.size ≤ 1000) (hn : b.toList = [] ∨ (1 ≤ n ∧ n < 10)) : Ev (fun k => spec_mvText.f k b n) (mvTxt b n) := by
  unfold spec_mvText.f mvTxt
  by_cases h : b.toList = ([] : List UInt8)
  · simp only [if_pos h]; exact Ev.now _
  · simp only [if_neg h]
    have hn := hn.resolve_left h
    by_cases h2 : n > 1
    · simp only [if_pos h2, if_pos (show b.size + 1 ≤ 9223372036854775807 by omega)]
      refine Ev.bind (l1_ev n (by omega)) (Ev.congr (f := fun _ => some _) (fun k => if_pos ?_) (Ev.now _))
      rw [app_size, it_size n (by omega)]
      have : (⟨#[42]⟩ : ByteArray).size = 1 := rfl
      omega
    · simp only [if_neg h2]; exact Ev.now _
theorem impl_mv_txt (hb : b.size ≤ 1000) (hn : b.toList = [] ∨ (1 ≤ n ∧ n < 10)) : impl_Move_text.f b n = some (mvTxt b n) := by
  unfold impl_Move_text.f mvTxt
  by_cases h : b.toList = ([] : List UInt8)
  · simp only [if_pos h]
  · simp only [if_neg h]
    have hn := hn.resolve_left h
    by_cases h2 : n > 1
    · have : (⟨#[42]⟩ : ByteArray).size = 1 := rfl
      rw [if_pos h2, if_neg (show ¬ n = 1 by omega), if_pos (by omega), it_some n (by omega)]
      simp only [Option.bind_some]
      rw [if_pos (by rw [app_size, it_size n (by omega)]; omega)]
    · rw [if_neg h2, if_pos (show n = 1 by omega)]
end Go.Proofs.YtgpkeclojbcgoaaGreatDoor.PA
