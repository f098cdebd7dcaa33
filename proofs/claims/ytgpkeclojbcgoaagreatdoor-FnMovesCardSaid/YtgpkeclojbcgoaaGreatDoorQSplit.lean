/- The pieces of a text between some letters. -/
import Derived.Test.YtgpkeclojbcgoaaGreatDoorPAx2
import Derived.Test.YtgpkeclojbcgoaaGreatDoorBase
namespace Go.Proofs.YtgpkeclojbcgoaaGreatDoor.PA
open Go.RowKit Go.Proofs.YtgpkeclojbcgoaaGreatDoorW.PrintWords Go.Proofs.YtgpkeclojbcgoaaGreatDoorW.PrintLast Go.Proofs.YtgpkeclojbcgoaaGreatDoorW.PrintMore
set_option linter.unusedVariables false
set_option linter.unusedSimpArgs false
/-- The pieces of a list between letters c, the first one begun. -/
def spl (c : UInt8) : List UInt8 → List UInt8 → List (List UInt8)
  | cur, [] => [cur]
  | cur, x :: r => if x = c then cur :: spl c [] r else spl c (cur ++ [x]) r
def bsOf (l : List UInt8) : ByteArray := ⟨l.toArray⟩
/-- The pieces of a text. -/
def splV (s : ByteArray) (c : UInt8) : List ByteArray := (spl c [] s.data.toList).map bsOf
theorem bsOf_list (l : List UInt8) : (bsOf l).data.toList = l := by simp [bsOf]
theorem bsOf_self (s : ByteArray) : bsOf s.data.toList = s := by
  obtain ⟨⟨a⟩⟩ := s; simp [bsOf]
theorem spl_no {c : UInt8} : ∀ {l cur : List UInt8}, c ∉ l → spl c cur l = [cur ++ l]
  | [], cur, _ => by simp [spl]
  | x :: r, cur, h => by
    rw [List.mem_cons, not_or] at h
    rw [spl, if_neg (fun e => h.1 e.symm), spl_no h.2]
    simp
theorem spl_at {c : UInt8} {b : List UInt8} : ∀ {a cur : List UInt8}, c ∉ a → spl c cur (a ++ c :: b) = (cur ++ a) :: spl c [] b
  | [], cur, _ => by simp [spl]
  | x :: r, cur, h => by
    rw [List.mem_cons, not_or] at h
    rw [List.cons_append, spl, if_neg (fun e => h.1 e.symm), spl_at h.2]
    simp
theorem spl_len {c : UInt8} : ∀ {l cur : List UInt8}, (spl c cur l).length = l.count c + 1
  | [], cur => by simp [spl]
  | x :: r, cur => by
    rw [spl]
    by_cases e : x = c
    · subst e
      rw [if_pos rfl, List.length_cons, spl_len, List.count_cons_self]
    · rw [if_neg e, spl_len, List.count_cons_of_ne e]
theorem extract_snoc (s : ByteArray) (j i : Nat) (hj : j ≤ i) (h : i < s.size) : (s.extract j (i + 1)).data.toList = (s.extract j i).data.toList ++ [s.data.toList[i]'(by rw [Array.length_toList]; exact h)] := by
  have hl : s.data.toList.length = s.size := Array.length_toList
  simp only [ByteArray.data_extract, Array.toList_extract, List.extract_eq_take_drop]
  rw [show i + 1 - j = (i - j) + 1 by omega, List.take_add_one]
  congr 1
  rw [List.getElem?_drop, show j + (i - j) = i by omega, List.getElem?_eq_getElem (by omega)]
  rfl
theorem extract_none (s : ByteArray) (i : Nat) : (s.extract i i).data.toList = [] := by
  simp [ByteArray.data_extract, Array.toList_extract, List.extract_eq_take_drop]
theorem bt_list (s : ByteArray) (i : Nat) (h : i < s.size) : bt s (i : Int) = ((s.data.toList[i]'(by rw [Array.length_toList]; exact h)).toNat : Int) := by
  unfold bt
  rw [dif_pos (show (i : Int).toNat < s.size from h)]
  rw [Array.getElem_toList]
  rfl
theorem sw64 {x : Int} (h0 : -9223372036854775808 ≤ x) (h1 : x ≤ 9223372036854775807) : wrap64 x = x := by
  unfold wrap64; omega
theorem spec_split_from (s : ByteArray) (c : UInt8) (hs : s.size ≤ 1048576) : ∀ (d i j : Nat) (acc : List ByteArray), s.size - i = d → j ≤ i → i ≤ s.size → acc.length ≤ i →
    Ev (fun k => spec_l1Split.l0 k s (c.toNat : Int) acc (j : Int) (i : Int)) (acc ++ (spl c (s.extract j i).data.toList (s.data.toList.drop i)).map bsOf) := by
  have hl : s.data.toList.length = s.size := Array.length_toList
  intro d
  induction d with
  | zero =>
    intro i j acc hd hj hi ha
    obtain rfl : i = s.size := by omega
    refine Ev.step (f := fun _ => some (acc ++ [s.extract j s.size])) (fun k => ?_) ?_
    · simp only [spec_l1Split.l0]
      rw [if_neg (by omega), if_pos (by omega), if_pos (by omega), if_pos (by omega)]
      rfl
    · rw [List.drop_eq_nil_of_le (by omega)]
      simp only [spl, List.map_cons, List.map_nil, bsOf_self]
      exact Ev.now _
  | succ d ih =>
    intro i j acc hd hj hi ha
    have hlt : i < s.size := by omega
    have hd1 : s.data.toList.drop i = s.data.toList[i]'(by omega) :: s.data.toList.drop (i + 1) := List.drop_eq_getElem_cons (by omega)
    rw [hd1, spl]
    have hw : wrap64 ((i : Int) + 1) = ((i + 1 : Nat) : Int) := by rw [sw64 (by omega) (by omega)]; omega
    by_cases e : s.data.toList[i]'(by omega) = c
    · rw [if_pos e]
      have := ih (i + 1) (i + 1) (acc ++ [s.extract j i]) (by omega) (by omega) (by omega) (by simp; omega)
      rw [extract_none] at this
      have e2 : acc ++ List.map bsOf ((s.extract j i).data.toList :: spl c [] (s.data.toList.drop (i + 1))) = acc ++ [s.extract j i] ++ List.map bsOf (spl c [] (s.data.toList.drop (i + 1))) := by
        rw [List.map_cons, bsOf_self, List.append_assoc]
        rfl
      rw [e2]
      refine Ev.step (fun k => ?_) this
      simp only [spec_l1Split.l0]
      rw [if_pos (by omega), if_pos (by omega), if_pos (by omega), if_pos (by rw [bt_list s i hlt, e]), if_pos (by omega), if_pos (by omega), if_pos (by omega), if_pos (by omega), hw]
      rfl
    · rw [if_neg e]
      have := ih (i + 1) j acc (by omega) (by omega) (by omega) (by omega)
      rw [extract_snoc s j i hj hlt] at this
      refine Ev.step (fun k => ?_) this
      simp only [spec_l1Split.l0]
      rw [if_pos (by omega), if_pos (by omega), if_pos (by omega), if_neg (by
        rw [bt_list s i hlt]
        intro h
        apply e
        have h2 : (s.data.toList[i]'(by omega)).toNat = c.toNat := by omega
        exact UInt8.toNat_inj.mp h2), hw]
theorem spec_split_ev (s : ByteArray) (c : UInt8) (hs : s.size ≤ 1048576) : Ev (fun k => spec_l1Split.f k s (c.toNat : Int)) (splV s c) := by
  have := spec_split_from s c hs _ 0 0 [] rfl (Nat.le_refl _) (Nat.zero_le _) (Nat.zero_le _)
  rw [extract_none] at this
  unfold spec_l1Split.f
  simpa [splV] using this
/-- The first c of a list, or none. -/
theorem first_at (c : UInt8) : ∀ l : List UInt8, c ∉ l ∨ ∃ a b, l = a ++ c :: b ∧ c ∉ a
  | [] => .inl (by simp)
  | x :: r => by
    by_cases e : x = c
    · exact .inr ⟨[], r, by simp [e], by simp⟩
    · rcases first_at c r with h | ⟨a, b, rfl, h⟩
      · exact .inl (by rw [List.mem_cons, not_or]; exact ⟨fun h' => e h'.symm, h⟩)
      · exact .inr ⟨x :: a, b, rfl, by rw [List.mem_cons, not_or]; exact ⟨fun h' => e h'.symm, h⟩⟩
theorem idx_no {c : UInt8} : ∀ {l : List UInt8}, c ∉ l → Lib.indexByte l c = -1
  | [], _ => rfl
  | x :: r, h => by
    rw [List.mem_cons, not_or] at h
    rw [Lib.indexByte, if_neg (by simpa using fun e => h.1 e.symm), idx_no h.2]
    rfl
theorem idx_at {c : UInt8} {b : List UInt8} : ∀ {a : List UInt8}, c ∉ a → Lib.indexByte (a ++ c :: b) c = (a.length : Int)
  | [], _ => by simp [Lib.indexByte]
  | x :: r, h => by
    rw [List.mem_cons, not_or] at h
    rw [List.cons_append, Lib.indexByte, if_neg (by simpa using fun e => h.1 e.symm), idx_at h.2, if_neg (by simp <;> omega)]
    simp
/-- A text, cut at the first of a letter. -/
def ctV (s : ByteArray) (c : UInt8) : ByteArray × ByteArray × Bool :=
  if Lib.indexByte s.data.toList c < 0 then (s, ⟨#[]⟩, false)
  else (s.extract 0 (Lib.indexByte s.data.toList c).toNat, s.extract ((Lib.indexByte s.data.toList c).toNat + 1) s.size, true)
end Go.Proofs.YtgpkeclojbcgoaaGreatDoor.PA
