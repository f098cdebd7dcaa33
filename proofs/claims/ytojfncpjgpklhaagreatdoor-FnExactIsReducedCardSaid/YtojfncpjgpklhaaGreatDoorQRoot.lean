/- The shortest piece whose repetition a text is. -/
import Derived.Test.YtojfncpjgpklhaaGreatDoorPAx7
import Derived.Test.YtojfncpjgpklhaaGreatDoorPAx8
import Derived.Test.YtojfncpjgpklhaaGreatDoorPAx4
import Derived.Test.YtojfncpjgpklhaaGreatDoorQSigns
namespace Go.Proofs.YtojfncpjgpklhaaGreatDoor.PA
open Go.RowKit Go.Proofs.YtojfncpjgpklhaaGreatDoorW.PrintWords Go.Proofs.YtojfncpjgpklhaaGreatDoorW.PrintLast Go.Proofs.YtojfncpjgpklhaaGreatDoorW.PrintMore
/-- The first i bytes, repeated as often as they go into the text. -/
def piece (a : ByteArray) (i : Nat) : ByteArray := rep (a.extract 0 i) (a.size / i)
def rootAt (a : ByteArray) : Nat → Nat → ByteArray
  | 0, _ => a
  | d + 1, i => if a.size % i = 0 then (if (piece a i).toList = a.toList then a.extract 0 i else rootAt a d (i + 1)) else rootAt a d (i + 1)
theorem ext_size (a : ByteArray) (i : Nat) (h : i ≤ a.size) : (a.extract 0 i).size = i := by
  rw [ByteArray.size_extract]
  omega
theorem w64_nat (q m : Nat) (h : q ≤ m) (hm : m ≤ 1000) : wrap64 (q : Int) = (q : Int) := by unfold wrap64; omega
theorem div_le (n i : Nat) : n / i * i ≤ n := Nat.div_mul_le_self n i
theorem spec_root_from (a : ByteArray) (hs : a.size ≤ 1000) : ∀ (d i : Nat), a.size - i = d → 1 ≤ i → Ev (fun k => spec_cmRoot.l0 k a (i : Int)) (rootAt a d i)
  | 0, i, hd, hi => by
    refine ⟨1, fun k hk => ?_⟩
    obtain ⟨k, rfl⟩ : ∃ m, k = m + 1 := ⟨k - 1, by omega⟩
    simp only [spec_cmRoot.l0]
    rw [if_neg (by omega)]
    rfl
  | d + 1, i, hd, hi => by
    have ih := spec_root_from a hs d (i + 1) (by omega) (by omega)
    have hw : wrap64 ((i : Int) + 1) = ((i + 1 : Nat) : Int) := by unfold wrap64; omega
    have ht : Int.tmod (a.size : Int) (i : Int) = ((a.size % i : Nat) : Int) := (Int.ofNat_tmod _ _).symm
    have hle : a.size / i ≤ a.size := Nat.div_le_self _ _
    have hq : wrap64 (Int.tdiv (a.size : Int) (i : Int)) = ((a.size / i : Nat) : Int) := by
      rw [← Int.ofNat_tdiv]; exact w64_nat _ _ (Nat.div_le_self _ _) hs
    unfold rootAt
    by_cases c : a.size % i = 0
    · rw [if_pos c]
      have hm := div_le a.size i
      refine Ev.step (f := fun k => (spec_mvTimes.f k (a.extract 0 i) ((a.size / i : Nat) : Int)).bind fun t => if t.toList = a.toList then some (a.extract 0 i) else spec_cmRoot.l0 k a ((i + 1 : Nat) : Int)) (fun k => ?_) ?_
      · simp only [spec_cmRoot.l0]
        rw [if_pos (by omega), if_neg (by omega), ht, if_pos (by omega), if_pos (by omega), if_pos (by omega), if_neg (by omega), hq, hw, show ((i : Int)).toNat = i by omega]
        congr 1
        funext t
        split
        · rw [if_pos (by omega), if_pos (by omega)]
        · rfl
      · refine Ev.bind (spec_mvTimes_ev (a.extract 0 i) (a.size / i) (by omega) (by rw [ext_size a i (by omega)]; omega)) ?_
        by_cases e : (rep (a.extract 0 i) (a.size / i)).toList = a.toList
        · rw [show piece a i = rep (a.extract 0 i) (a.size / i) from rfl, if_pos e]
          exact Ev.congr (f := fun _ => some (a.extract 0 i)) (fun k => by rw [if_pos e]) (Ev.now _)
        · rw [show piece a i = rep (a.extract 0 i) (a.size / i) from rfl, if_neg e]
          exact Ev.congr (fun k => by rw [if_neg e]) ih
    · rw [if_neg c]
      refine Ev.step (fun k => ?_) ih
      simp only [spec_cmRoot.l0]
      rw [if_pos (by omega), if_neg (by omega), ht, if_neg (by omega), hw]
theorem spec_root_ev (a : ByteArray) (hs : a.size ≤ 1000) : Ev (fun k => spec_cmRoot.f k a) (rootAt a (a.size - 1) 1) := by
  unfold spec_cmRoot.f
  exact spec_root_from a hs _ 1 rfl (by omega)
theorem rep_one (a : ByteArray) : rep a 1 = a := bs_ext (by simp [rep_list, Lib.repeatL])
theorem impl_root_from (a b : ByteArray) (n : Int) (hs : a.size ≤ 1000) : ∀ (d i : Nat), a.size - i = d → 1 ≤ i → i ≤ a.size → Ev (fun k => impl_Move_reduced.l0 k a (i : Int) b n) (rootAt a d i, 1)
  | 0, i, hd, hi, hle => by
    obtain rfl : i = a.size := by omega
    have hx : a.extract 0 a.size = a := by simp
    have h1 : a.size / a.size = 1 := Nat.div_self (by omega)
    have ht : Int.tmod (a.size : Int) (a.size : Int) = 0 := by rw [Int.tmod_self]
    have hq : wrap64 (Int.tdiv (a.size : Int) (a.size : Int)) = ((1 : Nat) : Int) := by rw [← Int.ofNat_tdiv, h1]; exact w64_nat 1 1 (by omega) (by omega)
    refine ⟨1, fun k hk => ?_⟩
    obtain ⟨k, rfl⟩ : ∃ m, k = m + 1 := ⟨k - 1, by omega⟩
    simp only [impl_Move_reduced.l0]
    rw [if_pos (by omega), if_neg (by omega), ht, if_pos rfl, if_pos (by omega), if_pos (by omega), if_neg (by omega), hq, show ((a.size : Int)).toNat = a.size by omega, hx, impl_rep a 1 (by omega) (by omega), rep_one]
    simp only [Option.bind_some, if_true]
    rw [if_pos (by omega), if_pos (by omega)]
    rfl
  | d + 1, i, hd, hi, hle => by
    have ih := impl_root_from a b n hs d (i + 1) (by omega) (by omega) (by omega)
    have hw : wrap64 ((i : Int) + 1) = ((i + 1 : Nat) : Int) := by unfold wrap64; omega
    have ht : Int.tmod (a.size : Int) (i : Int) = ((a.size % i : Nat) : Int) := (Int.ofNat_tmod _ _).symm
    have hdl : a.size / i ≤ a.size := Nat.div_le_self _ _
    have hq : wrap64 (Int.tdiv (a.size : Int) (i : Int)) = ((a.size / i : Nat) : Int) := by
      rw [← Int.ofNat_tdiv]; exact w64_nat _ _ (Nat.div_le_self _ _) hs
    unfold rootAt
    by_cases c : a.size % i = 0
    · rw [if_pos c]
      have hm := div_le a.size i
      have hr : strings_Repeat.f (a.extract 0 i) ((a.size / i : Nat) : Int) = some (piece a i) := impl_rep _ _ (by omega) (by rw [ext_size a i (by omega), Nat.mul_comm]; omega)
      by_cases e : (piece a i).toList = a.toList
      · rw [if_pos e]
        refine ⟨1, fun k hk => ?_⟩
        obtain ⟨k, rfl⟩ : ∃ m, k = m + 1 := ⟨k - 1, by omega⟩
        simp only [impl_Move_reduced.l0]
        rw [if_pos (by omega), if_neg (by omega), ht, if_pos (by omega), if_pos (by omega), if_pos (by omega), if_neg (by omega), hq, show ((i : Int)).toNat = i by omega, hr]
        simp only [Option.bind_some]
        rw [if_pos e, if_pos (by omega), if_pos (by omega)]
      · rw [if_neg e]
        refine Ev.step (fun k => ?_) ih
        simp only [impl_Move_reduced.l0]
        rw [if_pos (by omega), if_neg (by omega), ht, if_pos (by omega), if_pos (by omega), if_pos (by omega), if_neg (by omega), hq, show ((i : Int)).toNat = i by omega, hr, hw]
        simp only [Option.bind_some]
        rw [if_neg e]
    · rw [if_neg c]
      refine Ev.step (fun k => ?_) ih
      simp only [impl_Move_reduced.l0]
      rw [if_pos (by omega), if_neg (by omega), ht, if_neg (by omega), hw]
end Go.Proofs.YtojfncpjgpklhaaGreatDoor.PA
