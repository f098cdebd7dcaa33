/- What draws of spoilt texts come to. -/
import Derived.Test.YtgpkeclojbcgoaaGreatDoorPAx2
import Derived.Test.YtgpkeclojbcgoaaGreatDoorQCur
namespace Go.Proofs.YtgpkeclojbcgoaaGreatDoor.PA
open Go.RowKit Go.Proofs.YtgpkeclojbcgoaaGreatDoorW.PrintWords Go.Proofs.YtgpkeclojbcgoaaGreatDoorW.PrintLast Go.Proofs.YtgpkeclojbcgoaaGreatDoorW.PrintMore
set_option linter.unusedVariables false
set_option linter.unusedSimpArgs false
theorem num1_size (x : Int) : (strOfNums [x]).size = 1 := by simp [strOfNums, ByteArray.size]
theorem spoilt_l0 {c : List Int} (w : ByteArray) (hw : 1 ≤ w.size) (hw2 : w.size ≤ 100) : ∀ (d : Nat) (t : ByteArray) (n i M s : Int), n ≤ (d : Int) → t.size + d ≤ 1000 → Cur c i M → M + 6 * (d : Int) ≤ 1000000 → Evs (fun k => spec_l1Cur_spoilt.l0 k t w n c i s) (Drew c (M + 6 * (d : Int)) fun r => r.size ≤ 1000) := by
  intro d
  have fin : ∀ (d : Nat) (t : ByteArray) (n i M s : Int), t.size + d ≤ 1000 → Cur c i M → Evs (fun k => spec_l1Cur_spoilt.j1 k t w n false c i s) (Drew c (M + 6 * (d : Int)) fun r => r.size ≤ 1000) := by
    intro d t n i M s ht hc
    refine Evs.shift ?_
    simp only [spec_l1Cur_spoilt.j1]
    exact Evs.no (by decide) (Evs.now ⟨rfl, hc.le (by omega), by simp only []; omega⟩)
  induction d with
  | zero =>
    intro t n i M s hn ht hc hM
    refine Evs.shift ?_
    simp only [spec_l1Cur_spoilt.l0]
    exact Evs.no (by omega) (fin 0 t n i M s ht hc)
  | succ d ih =>
    intro t n i M s hn ht hc hM
    refine Evs.shift ?_
    simp only [spec_l1Cur_spoilt.l0]
    refine Evs.ite (fun h0 => ?_) (fun _ => fin (d + 1) t n i M s ht hc)
    have hw1 : wrap64 (n - 1) = n - 1 := cw64 (by omega) (by omega)
    refine Evs.shift ?_
    simp only [spec_l1Cur_spoilt.j1, hw1]
    refine Evs.ite (fun hp => ?_) (fun _ => Evs.now ⟨rfl, hc.le (by omega), by simp only []; omega⟩)
    have hpos : (t.size : Int) > 0 := of_decide_eq_true hp
    refine Evs.bind (pick_d s hc (by omega) _) ?_
    rintro ⟨v, c1, i1, s1⟩ ⟨rfl, h1, p1, p2⟩
    have p2 := p2 (by omega)
    simp only [] at p1 p2
    refine Evs.bind (pick_d s1 h1 (by omega) _) ?_
    rintro ⟨q, c2, i2, s2⟩ ⟨rfl, h2, q1, q2⟩
    have q2 := q2 (by omega)
    simp only [] at q1 q2
    refine Evs.yes q1 (Evs.yes q2 (Evs.bind (P := fun y => y = [bt w q]) (Evs.now rfl) ?_))
    rintro _ rfl
    refine Evs.bind (pick_d s2 h2 (by omega) 3) ?_
    rintro ⟨z, c3, i3, s3⟩ ⟨rfl, h3, _⟩
    have hw2 : wrap64 (v + 1) = v + 1 := cw64 (by omega) (by omega)
    have J : ∀ t' : ByteArray, t'.size + d ≤ 1000 → Evs (fun k => spec_l1Cur_spoilt.l0 k t' w (n - 1) c3 i3 s3) (Drew c3 (M + 6 * ((d + 1 : Nat) : Int)) fun r => r.size ≤ 1000) :=
      fun t' ht' => (ih t' (n - 1) i3 (M + 2 + 2 + 2) s3 (by omega) ht' h3 (by omega)).mono fun r hr => ⟨hr.1, hr.2.1.le (by omega), hr.2.2⟩
    have e1 : (t.extract 0 v.toNat).size = v.toNat := by rw [ByteArray.size_extract]; omega
    have e2 : (t.extract v.toNat t.size).size = t.size - v.toNat := by rw [ByteArray.size_extract]; omega
    have e3 : (t.extract (v + 1).toNat t.size).size = t.size - (v.toNat + 1) := by rw [ByteArray.size_extract]; omega
    simp only [hw2]
    refine Evs.ite (fun _ => ?_) (fun _ => Evs.ite (fun _ => ?_) (fun _ => ?_))
    · refine Evs.yes p1 (Evs.yes (by omega) (Evs.yes (by rw [e1, num1_size]; omega) (Evs.yes p1 (Evs.yes (by omega) (Evs.yes (by rw [ByteArray.size_append, e1, num1_size, e2]; omega) (J _ ?_))))))
      rw [ByteArray.size_append, ByteArray.size_append, e1, num1_size, e2]
      omega
    · refine Evs.yes p1 (Evs.yes (by omega) (Evs.yes (by rw [e1, num1_size]; omega) (Evs.yes (by omega) (Evs.yes (by omega) (Evs.yes (by rw [ByteArray.size_append, e1, num1_size, e3]; omega) (J _ ?_))))))
      rw [ByteArray.size_append, ByteArray.size_append, e1, num1_size, e3]
      omega
    · refine Evs.yes p1 (Evs.yes (by omega) (Evs.yes (by omega) (Evs.yes (by omega) (Evs.yes (by rw [e1, e3]; omega) (J _ ?_)))))
      rw [ByteArray.size_append, e1, e3]
      omega
theorem spoilt_d {c : List Int} {i M : Int} (s : Int) (h : Cur c i M) (hM : M ≤ 100000) (t w : ByteArray) (ht : t.size ≤ 900) (hw : 1 ≤ w.size) (hw2 : w.size ≤ 100) : Evs (fun k => spec_l1Cur_spoilt.f k c i s t w) (Drew c (M + 20) fun r => r.size ≤ 1000) := by
  unfold spec_l1Cur_spoilt.f
  refine Evs.bind (pick_d s h (by omega) 2) ?_
  rintro ⟨v, c1, i1, s1⟩ ⟨rfl, h1, p1, p2⟩
  have p2 := p2 (by omega)
  simp only [] at p1 p2
  simp only [cw64 (x := 1 + v) (by omega) (by omega)]
  exact (spoilt_l0 w hw hw2 2 t (1 + v) i1 (M + 2) s1 (by omega) (by omega) h1 (by omega)).mono fun r hr => ⟨hr.1, hr.2.1.le (by omega), hr.2.2⟩
end Go.Proofs.YtgpkeclojbcgoaaGreatDoor.PA
