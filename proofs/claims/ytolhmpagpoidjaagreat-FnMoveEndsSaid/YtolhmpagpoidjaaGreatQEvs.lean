/- Steps with an end, a little more; bytes at their begin. -/
import Derived.Test.YtolhmpagpoidjaaGreatQCur
namespace Go.Proofs.YtolhmpagpoidjaaGreat.PA
open Go.RowKit Go.Proofs.YtolhmpagpoidjaaGreatW.PrintWords Go.Proofs.YtolhmpagpoidjaaGreatW.PrintLast Go.Proofs.YtolhmpagpoidjaaGreatW.PrintMore
set_option linter.unusedVariables false
set_option linter.unusedSimpArgs false
theorem Evs.eqn {α β : Type} {x : Nat → Option α} {f : Nat → α → Option β} {a : α} {Q : β → Prop} (h : Ev x a) (g : Evs (fun k => f k a) Q) : Evs (fun k => (x k).bind fun a => f k a) Q := by
  obtain ⟨b, hb, hq⟩ := g
  exact ⟨b, Ev.bind h hb, hq⟩
theorem Evs.last {α β : Type} {x : Nat → Option α} {f : α → β} {P : α → Prop} {Q : β → Prop} (h : Evs x P) (g : ∀ a, P a → Q (f a)) : Evs (fun k => (x k).bind fun a => some (f a)) Q := Evs.bind h (fun a ha => Evs.now (g a ha))
/-- Bytes, at their begin. -/
theorem cur0 {c : List Int} (h : ∀ x ∈ c, (Lit.int .u8 x).wf = true) : Cur c 0 0 := by
  refine ⟨fun x hx => ?_, Int.le_refl _, Int.le_refl _⟩
  have := h x hx
  rw [show (Lit.int .u8 x).wf = (decide (IntKind.u8.min ≤ x) && decide (x ≤ IntKind.u8.max)) from rfl, Bool.and_eq_true] at this
  have e1 : IntKind.u8.min = 0 := rfl
  have e2 : IntKind.u8.max = 255 := rfl
  have h1 := of_decide_eq_true this.1
  have h2 := of_decide_eq_true this.2
  omega
end Go.Proofs.YtolhmpagpoidjaaGreat.PA
