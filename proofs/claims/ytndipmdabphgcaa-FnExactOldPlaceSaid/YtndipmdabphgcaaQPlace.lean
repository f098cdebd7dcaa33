/- The plain law of places: both parsers return the first place of one table whose text is the given one. -/
import Derived.Test.YtndipmdabphgcaaPAx3
import Derived.Test.YtndipmdabphgcaaPAx5
namespace Go.Proofs.Ytndipmdabphgcaa.PA
open Go.RowKit Go.Proofs.YtndipmdabphgcaaW.PrintWords Go.Proofs.YtndipmdabphgcaaW.PrintLast Go.Proofs.YtndipmdabphgcaaW.PrintMore
set_option linter.unusedVariables false
set_option linter.unusedSimpArgs false

theorem w64_in {x : Int} (h0 : -9223372036854775808 ≤ x) (h1 : x ≤ 9223372036854775807) : wrap64 x = x := by
  unfold wrap64; omega

def plOf (c : Nat) : Int × Int × Bool := (((c / 6 : Nat) : Int), ((c % 6 / 2 : Nat) : Int) - 1, c % 2 == 1)
def plOk (p : Int × Int × Bool) : Bool := !(p.2.2 && p.1 == 0)
def plTab : List (Int × Int × Bool) := ((List.range 60).map plOf).filter plOk
def plTxt (p : Int × Int × Bool) : ByteArray := plNms.getD p.1.toNat ⟨#[]⟩ ++ plSide p.2.1 ++ (if p.2.2 = true then ⟨#[42]⟩ else ⟨#[]⟩)
def plHit (s : ByteArray) (p : Int × Int × Bool) : Bool := decide ((plTxt p).toList = s.toList)
def plGot (o : Option (Int × Int × Bool)) : Int × Int × Bool × Bool := match o with
  | some p => (p.1, p.2.1, p.2.2, true)
  | none => (0, 0, false, false)
/-- What both parsers return. -/
def plPs (s : ByteArray) : Int × Int × Bool × Bool := plGot (plTab.find? (plHit s))

theorem plOf_code : ∀ c : Fin 60, impl_PlaceOfCode.f (c.val : Int) = some (if plOk (plOf c.val) = true then ((plOf c.val).1, (plOf c.val).2.1, (plOf c.val).2.2, true) else (0, 0, false, false)) := by
  decide +kernel
theorem plOf_in : ∀ c : Fin 60, 0 ≤ (plOf c.val).1 ∧ (plOf c.val).1 < 10 ∧ -1 ≤ (plOf c.val).2.1 ∧ (plOf c.val).2.1 ≤ 1 := by
  decide +kernel
theorem plTab_in : ∀ p ∈ plTab, 0 ≤ p.1 ∧ p.1 < 10 ∧ -1 ≤ p.2.1 ∧ p.2.1 ≤ 1 ∧ (p.2.2 = true → p.1 ≠ 0) := by
  decide +kernel

theorem impl_parse (s : ByteArray) : ∀ (d c k : Nat), 60 - c = d → c ≤ 60 → d < k →
    impl_ParsePlace.l0 k s (c : Int) = some (plGot ((((List.range' c d).map plOf).filter plOk).find? (plHit s))) := by
  intro d
  induction d with
  | zero =>
    intro c k hd hc hk
    obtain ⟨k, rfl⟩ : ∃ m, k = m + 1 := ⟨k - 1, by omega⟩
    simp only [impl_ParsePlace.l0]
    rw [if_neg (by omega)]
    rfl
  | succ d ih =>
    intro c k hd hc hk
    obtain ⟨k, rfl⟩ : ∃ m, k = m + 1 := ⟨k - 1, by omega⟩
    have hlt : c < 60 := by omega
    simp only [impl_ParsePlace.l0]
    rw [if_pos (by omega), plOf_code ⟨c, hlt⟩]
    have hi := plOf_in ⟨c, hlt⟩
    have e : wrap64 ((c : Int) + 1) = ((c + 1 : Nat) : Int) := by rw [w64_in (by omega) (by omega)]; omega
    rw [e]
    have hn := ih (c + 1) k (by omega) (by omega) (by omega)
    simp only [Option.bind_some, List.range'_succ, List.map_cons, List.filter_cons]
    by_cases hok : plOk (plOf c) = true
    · rw [if_pos hok, if_pos hok]
      simp only [Option.bind_some, if_true]
      have ht : impl_Place_text.f (plOf c).1 (plOf c).2.1 (plOf c).2.2 = some (plTxt (plOf c)) := by
        unfold impl_Place_text.f
        rw [if_pos hi]
        rfl
      rw [ht]
      simp only [Option.bind_some, List.find?_cons]
      by_cases hh : (plTxt (plOf c)).toList = s.toList
      · rw [if_pos hh, show plHit s (plOf c) = true from decide_eq_true hh]
        rfl
      · rw [if_neg hh, show plHit s (plOf c) = false from decide_eq_false hh]
        exact hn
    · rw [if_neg hok, if_neg hok]
      simp only [Bool.false_eq_true, if_false]
      exact hn

theorem impl_ParsePlace_ev (s : ByteArray) : Ev (fun k => impl_ParsePlace.f k s) (plPs s) := by
  refine Ev.of (fun k => impl_ParsePlace.mono s k) (k := 61) ?_
  have := impl_parse s 60 0 61 (by omega) (by omega) (by omega)
  unfold impl_ParsePlace.f plPs plTab
  rw [List.range_eq_range']
  exact this

theorem spec_all : spec_plAll.f 200 = some (plTab.map fun p => (⟨p.1, p.2.1, p.2.2⟩ : S23)) := by kernel_rfl

theorem spec_parse (s : ByteArray) (L : List (Int × Int × Bool)) (hL : ∀ p ∈ L, 0 ≤ p.1 ∧ p.1 < 10) (hs : L.length ≤ 1000000) : ∀ (d i k : Nat), L.length - i = d → i ≤ L.length → d < k →
    spec_plParse.l0 k s (L.map fun p => (⟨p.1, p.2.1, p.2.2⟩ : S23)) (L.length : Int) (i : Int) = some (plGot ((L.drop i).find? (plHit s))) := by
  intro d
  induction d with
  | zero =>
    intro i k hd hi hk
    obtain ⟨k, rfl⟩ : ∃ m, k = m + 1 := ⟨k - 1, by omega⟩
    simp only [spec_plParse.l0]
    rw [if_neg (by omega), List.drop_eq_nil_of_le (by omega)]
    rfl
  | succ d ih =>
    intro i k hd hi hk
    obtain ⟨k, rfl⟩ : ∃ m, k = m + 1 := ⟨k - 1, by omega⟩
    have hlt : i < L.length := by omega
    simp only [spec_plParse.l0]
    rw [if_pos (by omega), if_pos (by omega), if_pos (by simp; omega)]
    have e : wrap64 ((i : Int) + 1) = ((i + 1 : Nat) : Int) := by rw [w64_in (by omega) (by omega)]; omega
    have r : rd_T23 (L.map fun p => (⟨p.1, p.2.1, p.2.2⟩ : S23)) (i : Int) = ⟨L[i].1, L[i].2.1, L[i].2.2⟩ := by
      unfold rd_T23
      rw [List.getD_eq_getElem?_getD]
      simp [hlt]
    have hp := hL L[i] (List.getElem_mem hlt)
    have ht : spec_plText.f L[i].1 L[i].2.1 L[i].2.2 = some (plTxt L[i]) := by
      unfold spec_plText.f
      rw [if_pos hp]
      rfl
    rw [r, e]
    simp only []
    rw [ht]
    rw [List.drop_eq_getElem_cons hlt]
    simp only [Option.bind_some, List.find?_cons]
    by_cases hh : (plTxt L[i]).toList = s.toList
    · rw [if_pos hh, show plHit s L[i] = true from decide_eq_true hh]
      rfl
    · rw [if_neg hh, show plHit s L[i] = false from decide_eq_false hh]
      exact ih (i + 1) k (by omega) (by omega) (by omega)

theorem spec_plParse_ev (s : ByteArray) : Ev (fun k => spec_plParse.f k s) (plPs s) := by
  refine Ev.of (fun k => spec_plParse.mono s k) (k := 200) ?_
  unfold spec_plParse.f
  rw [spec_all]
  have hlen : plTab.length = 57 := by decide +kernel
  have := spec_parse s plTab (fun p h => ⟨(plTab_in p h).1, (plTab_in p h).2.1⟩) (by omega) 57 0 200 (by omega) (by omega) (by omega)
  simp only [Option.bind_some, List.length_map]
  exact this
end Go.Proofs.Ytndipmdabphgcaa.PA
