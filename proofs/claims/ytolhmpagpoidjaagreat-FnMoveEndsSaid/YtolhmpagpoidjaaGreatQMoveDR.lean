/- The plain law of desks: what is valid, what edits make, and what all functions of desks return. -/
import Derived.Test.YtolhmpagpoidjaaGreatPAx1
import Derived.Test.YtolhmpagpoidjaaGreatQCur
import Derived.Test.YtolhmpagpoidjaaGreatQMoves
namespace Go.Proofs.YtolhmpagpoidjaaGreat.PA
open Go.RowKit Go.Proofs.YtolhmpagpoidjaaGreatW.PrintWords Go.Proofs.YtolhmpagpoidjaaGreatW.PrintLast Go.Proofs.YtolhmpagpoidjaaGreatW.PrintMore
set_option linter.unusedVariables false
set_option linter.unusedSimpArgs false
/-- A movement that was drawn. -/
def MoveR (c : List Int) (M : Int) (r : ByteArray × Int × List Int × Int × Int) : Prop := r.1.size ≤ 20 ∧ r.2.2.1 = c ∧ Cur c r.2.2.2.1 M
/-- The same, with a number that has a text. -/
def MoveS (c : List Int) (M : Int) (r : ByteArray × Int × List Int × Int × Int) : Prop := MoveR c M r ∧ r.1.size ≤ 6 ∧ 1 ≤ r.2.1 ∧ r.2.1 ≤ 3
theorem MoveS.le {c : List Int} {M N : Int} {r : ByteArray × Int × List Int × Int × Int} (h : MoveS c M r) (hn : M ≤ N) : MoveS c N r := ⟨⟨h.1.1, h.1.2.1, h.1.2.2.le hn⟩, h.2⟩
theorem move_l0 {c : List Int} (n r : Int) (hn : n ≤ 6) (hr : 1 ≤ r ∧ r ≤ 3) : ∀ (d : Nat) (s : ByteArray) (i M sd : Int), n - (s.size : Int) ≤ (d : Int) → s.size ≤ 6 → Cur c i M → M + 2 * (d : Int) ≤ 1000000 → Evs (fun k => spec_l1Cur_move.l0 k n c i sd s r) (MoveS c (M + 2 * (d : Int) + 2)) := by
  intro d
  have fin : ∀ (d : Nat) (s : ByteArray) (i M sd : Int), ¬ (s.size : Int) < n → s.size ≤ 6 → Cur c i M → M + 2 * (d : Int) ≤ 1000000 → Evs (fun k => spec_l1Cur_move.l0 k n c i sd s r) (MoveS c (M + 2 * (d : Int) + 2)) := by
    intro d s i M sd hlt h6 hc hM
    refine Evs.shift ?_
    simp only [spec_l1Cur_move.l0]
    refine Evs.no hlt (Evs.ite (fun h4 => ?_) (fun _ => Evs.now ⟨⟨by simp only []; omega, rfl, hc.le (by omega)⟩, h6, hr⟩))
    refine Evs.bind (one_d sd hc (by omega) 2) ?_
    rintro ⟨b, c1, i1, s1⟩ ⟨rfl, h1, _⟩
    refine Evs.ite (fun _ => ?_) (fun _ => Evs.now ⟨⟨by simp only []; omega, rfl, h1.le (by omega)⟩, h6, hr⟩)
    have hx : (s.extract 0 2).size ≤ 2 := by rw [ByteArray.size_extract]; omega
    exact Evs.yes (by decide) (Evs.yes (by omega) (Evs.yes (by decide) (Evs.yes (by omega) (Evs.yes (by omega) (Evs.now ⟨⟨by simp only [ByteArray.size_append]; omega, rfl, h1.le (by omega)⟩, by simp only [ByteArray.size_append]; omega, hr⟩)))))
  induction d with
  | zero => intro s i M sd hd h6 hc hM; exact fin 0 s i M sd (by omega) h6 hc hM
  | succ d ih =>
    intro s i M sd hd h6 hc hM
    by_cases hlt : (s.size : Int) < n
    · refine Evs.shift ?_
      simp only [spec_l1Cur_move.l0]
      refine Evs.yes hlt ?_
      refine Evs.bind (of_d (R := fun v => v.size = 1) sd hc (by omega) _ (by decide) (by decide)) ?_
      rintro ⟨g, c1, i1, s1⟩ ⟨rfl, h1, q⟩
      simp only [] at q
      refine Evs.yes (by simp only []; omega) ?_
      refine (ih (s ++ g) i1 (M + 2) s1 (by rw [ByteArray.size_append]; omega) (by rw [ByteArray.size_append]; omega) h1 (by omega)).mono fun x hx => hx.le (by omega)
    · exact fin (d + 1) s i M sd hlt h6 hc hM
theorem move_d {c : List Int} {i M : Int} (sd : Int) (h : Cur c i M) (hM : M ≤ 100000) : Evs (fun k => spec_l1Cur_move.f k c i sd) (MoveS c (M + 20)) := by
  unfold spec_l1Cur_move.f
  refine Evs.bind (among_d (R := fun v => 1 ≤ v ∧ v ≤ 3) sd h (by omega) _ (by simp) (by decide)) ?_
  rintro ⟨r, c1, i1, s1⟩ ⟨rfl, h1, hr⟩
  refine Evs.bind (among_d (R := fun v => v ≤ 6) s1 h1 (by omega) _ (by simp) (by decide)) ?_
  rintro ⟨n, c2, i2, s2⟩ ⟨rfl, h2, hn⟩
  refine Evs.ite (fun _ => ?_) (fun _ => ?_)
  · exact (move_l0 n 1 hn (by omega) 6 ⟨#[]⟩ i2 (M + 2 + 2) s2 (by show n - 0 ≤ _; simp only [] at hn; omega) (by decide) h2 (by omega)).mono fun x hx => hx.le (by omega)
  · exact (move_l0 n r hn hr 6 ⟨#[]⟩ i2 (M + 2 + 2) s2 (by show n - 0 ≤ _; simp only [] at hn; omega) (by decide) h2 (by omega)).mono fun x hx => hx.le (by omega)
theorem anyMove_d {c : List Int} {i M : Int} (sd : Int) (h : Cur c i M) (hM : M ≤ 10000) : Evs (fun k => spec_l1Cur_anyMove.f k c i sd) (MoveR c (M + 30)) := by
  unfold spec_l1Cur_anyMove.f
  refine Evs.bind (move_d sd h (by omega)) ?_
  rintro ⟨s, r, c1, i1, s1⟩ ⟨⟨hs, rfl, h1⟩, h6, hr⟩
  simp only [] at h6
  refine Evs.bind (pick_d s1 h1 (by omega) 30) ?_
  rintro ⟨n, c2, i2, s2⟩ ⟨rfl, h2, _⟩
  refine Evs.ite (fun _ => ?_) (fun _ => Evs.ite (fun _ => ?_) (fun _ => Evs.ite (fun _ => ?_) (fun _ => Evs.now ⟨by simp only []; omega, rfl, h2.le (by omega)⟩)))
  · refine Evs.bind (among_d (R := fun _ => True) s2 h2 (by omega) _ (by simp) (fun _ _ => trivial)) ?_
    rintro ⟨m, c3, i3, s3⟩ ⟨rfl, h3, _⟩
    exact Evs.now ⟨by simp only []; omega, rfl, h3.le (by omega)⟩
  · refine Evs.bind (of_d (R := fun v => v.size ≤ 7) s2 h2 (by omega) _ (by decide) (by decide)) ?_
    rintro ⟨g, c3, i3, s3⟩ ⟨rfl, h3, q⟩
    simp only [] at q
    exact Evs.yes (by simp only []; omega) (Evs.now ⟨by simp only [ByteArray.size_append]; omega, rfl, h3.le (by omega)⟩)
  · exact Evs.now ⟨Nat.zero_le _, rfl, h2.le (by omega)⟩
end Go.Proofs.YtolhmpagpoidjaaGreat.PA
