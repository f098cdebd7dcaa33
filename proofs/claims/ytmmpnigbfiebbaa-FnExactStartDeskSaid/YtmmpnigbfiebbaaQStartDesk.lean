/- The plain law of valid items, and of the start of a desk. -/
import Derived.Test.YtmmpnigbfiebbaaPAx14
import Derived.Test.YtmmpnigbfiebbaaQItemsOk
import Derived.Test.YtmmpnigbfiebbaaQDeskM
namespace Go.Proofs.Ytmmpnigbfiebbaa.PA
open Go.RowKit Go.Proofs.YtmmpnigbfiebbaaW.PrintWords Go.Proofs.YtmmpnigbfiebbaaW.PrintLast Go.Proofs.YtmmpnigbfiebbaaW.PrintMore
set_option linter.unusedVariables false
set_option linter.unusedSimpArgs false
def sdV (l : List ByteArray) : List ByteArray × List S25 × List S25 × Bool := if itOK l = true then (l, [], [], true) else ([], [], [], false)
theorem spec_StartDesk_ev (l : List ByteArray) (hl : l.length ≤ 1048576) (hs : ∀ x ∈ l, x.size ≤ 1048576) : Ev (fun k => spec_StartDesk.f k l) (sdV l) := by
  unfold spec_StartDesk.f sdV
  refine Ev.bind (spec_unItems_ev l hl hs) ?_
  cases itOK l
  · exact Ev.now _
  · exact Ev.congr (f := fun _ => some (l, [], [], true)) (fun k => by simp only [if_true, Option.bind_some]; rw [if_pos (by simp; omega)]; rfl) (Ev.now _)
theorem impl_StartDesk_ev (l : List ByteArray) (hl : l.length ≤ 1048576) (hs : ∀ x ∈ l, x.size ≤ 1048576) : Ev (fun k => impl_StartDesk.f k l) (sdV l) := by
  unfold impl_StartDesk.f sdV
  refine Ev.bind (impl_areItems_ev l hs) ?_
  cases itOK l
  · exact Ev.now _
  · exact Ev.congr (f := fun _ => some (l, [], [], true)) (fun k => by simp only [if_true, slices_Clone_string_string.f]; rw [if_pos (by omega)]; rfl) (Ev.now _)
theorem sdV_len (l : List ByteArray) (hl : l.length ≤ 1048576) : (sdV l).1.length ≤ 1048576 ∧ (sdV l).2.1.length ≤ 1048576 ∧ (sdV l).2.2.1.length ≤ 1048576 := by
  unfold sdV
  split <;> simp [hl]
end Go.Proofs.Ytmmpnigbfiebbaa.PA
