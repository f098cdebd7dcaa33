/- What the statements about drawn desks compare: the same lists are the same; and what their draws come to. -/
import Derived.Test.YtgpkeclojbcgoaaPAx3
import Derived.Test.YtgpkeclojbcgoaaPAx1
import Derived.Test.YtgpkeclojbcgoaaQDeskD
namespace Go.Proofs.Ytgpkeclojbcgoaa.PA
open Go.RowKit Go.Proofs.YtgpkeclojbcgoaaW.PrintWords Go.Proofs.YtgpkeclojbcgoaaW.PrintLast Go.Proofs.YtgpkeclojbcgoaaW.PrintMore
set_option linter.unusedVariables false
set_option linter.unusedSimpArgs false
theorem sameTexts_from (l : List ByteArray) (hl : l.length < 4611686018427387904) : ∀ (d i : Nat), l.length - i = d → Ev (fun k => laws_pSameTexts.l0 k l l (l.length : Int) (i : Int)) true := by
  intro d
  induction d with
  | zero =>
    intro i hd
    refine Ev.shift ?_
    simp only [laws_pSameTexts.l0]
    exact Ev.congr (f := fun _ => some true) (fun k => if_neg (by omega)) (Ev.now _)
  | succ d ih =>
    intro i hd
    refine Ev.step (f := fun k => laws_pSameTexts.l0 k l l (l.length : Int) ((i + 1 : Nat) : Int)) (fun k => ?_) (ih (i + 1) (by omega))
    simp only [laws_pSameTexts.l0]
    rw [if_pos (by omega), if_pos (by omega), if_pos (by omega), if_pos (by omega), if_pos (by omega), if_pos trivial, w64_succ (by omega)]
theorem sameTexts_ev (l : List ByteArray) (hl : l.length ≤ 1048576) : Ev (fun k => laws_pSameTexts.f k l l) true := by
  unfold laws_pSameTexts.f
  exact Ev.congr (fun k => if_pos rfl) (sameTexts_from l (by omega) _ 0 rfl)
theorem sameEdits_from (l : List S38) (hl : l.length < 4611686018427387904) : ∀ (d i : Nat), l.length - i = d → Ev (fun k => laws_pSameEdits.l0 k l l (l.length : Int) (i : Int)) true := by
  intro d
  induction d with
  | zero =>
    intro i hd
    refine Ev.shift ?_
    simp only [laws_pSameEdits.l0]
    exact Ev.congr (f := fun _ => some true) (fun k => if_neg (by omega)) (Ev.now _)
  | succ d ih =>
    intro i hd
    refine Ev.step (f := fun k => laws_pSameEdits.l0 k l l (l.length : Int) ((i + 1 : Nat) : Int)) (fun k => ?_) (ih (i + 1) (by omega))
    simp only [laws_pSameEdits.l0]
    rw [if_pos (by omega), if_pos (by omega), if_pos (by omega), if_pos (by omega), if_pos (by omega), if_pos (by simp), w64_succ (by omega)]
theorem sameEdits_ev (l : List S38) (hl : l.length ≤ 1048576) : Ev (fun k => laws_pSameEdits.f k l l) true := by
  unfold laws_pSameEdits.f
  exact Ev.congr (fun k => if_pos rfl) (sameEdits_from l (by omega) _ 0 rfl)
theorem sameDesk_ev (v : List ByteArray × List S38 × List S38 × Bool) (h : Short v) : Ev (fun k => laws_pSameDesk.f k v.1 v.2.1 v.2.2.1 v.1 v.2.1 v.2.2.1) true := by
  obtain ⟨h1, h2, h3⟩ := h
  unfold laws_pSameDesk.f
  refine Ev.bind (sameTexts_ev _ h1) ?_
  refine Ev.congr (fun k => if_pos rfl) (Ev.bind (sameEdits_ev _ h2) ?_)
  exact Ev.congr (fun k => if_pos rfl) (Ev.bind (sameEdits_ev _ h3) (Ev.now _))
theorem Evs.eqn {α β : Type} {x : Nat → Option α} {f : Nat → α → Option β} {a : α} {Q : β → Prop} (h : Ev x a) (g : Evs (fun k => f k a) Q) : Evs (fun k => (x k).bind fun a => f k a) Q := by
  obtain ⟨b, hb, hq⟩ := g
  exact ⟨b, Ev.bind h hb, hq⟩
theorem Evs.last {α β : Type} {x : Nat → Option α} {f : α → β} {P : α → Prop} {Q : β → Prop} (h : Evs x P) (g : ∀ a, P a → Q (f a)) : Evs (fun k => (x k).bind fun a => some (f a)) Q := Evs.bind h (fun a ha => Evs.now (g a ha))
theorem big_val {l0 l1 : List Int} (h0 : l0.length ≤ 9223372036854775807) : ∃ b, laws_big.f l0 l1 = some b := by
  unfold laws_big.f
  split
  · exact ⟨_, rfl⟩
  · exact ⟨_, rfl⟩
/-- Bytes, at their begin. -/
theorem cur0 {c : List Int} (h : ∀ x ∈ c, (Lit.int .u8 x).wf = true) : Cur c 0 0 := by
  refine ⟨fun x hx => ?_, Int.le_refl _, Int.le_refl _⟩
  have := h x hx
  rw [show (Lit.int .u8 x).wf = (decide (IntKind.u8.min ≤ x) && decide (x ≤ IntKind.u8.max)) from rfl, Bool.and_eq_true] at this
  have e1 : IntKind.u8.min = 0 := rfl
  have e2 : IntKind.u8.max = 255 := rfl
  have h1 := of_decide_eq_true this.1
  have h2 := of_decide_eq_true this.2
  omega
end Go.Proofs.Ytgpkeclojbcgoaa.PA
