/- The law FnExactImportHand, plainly: for every text of at most 1048576 bytes the program's and the reference's functions return the same hand, parts and bool. -/
import Derived.Test.YtcicpmhcmlfhbaaGreatDoorPAx3
import Derived.Test.YtcicpmhcmlfhbaaGreatDoorQPieceD
namespace Go.Proofs.YtcicpmhcmlfhbaaGreatDoor.Pure
open Go.RowKit Go.Proofs.YtcicpmhcmlfhbaaGreatDoor.PA Go.Proofs.YtcicpmhcmlfhbaaGreatDoorW.PrintWords Go.Proofs.YtcicpmhcmlfhbaaGreatDoorW.PrintLast Go.Proofs.YtcicpmhcmlfhbaaGreatDoorW.PrintMore
set_option linter.unusedSimpArgs false
theorem eqHand_self (a b c d e : Int) (f : Bool) (g h i j : Int) (l : Bool) (m : ByteArray) (n : Int) : laws_eqHand.f a b c d e f g h i j l m n a b c d e f g h i j l m n = some true := by
  unfold laws_eqHand.f laws_eqShape.f laws_eqOrient.f laws_eqPlace.f laws_eqMove.f
  simp
def giv (b : Int × Int × Int × Int × Int × Bool × Int × Int × Int × Int × Bool × ByteArray × Int × Int) : Int × Int × Int × Int × Int × Bool × Int × Int × Int × Int × Bool × ByteArray × Int × Int × Bool := (b.1, b.2.1, b.2.2.1, b.2.2.2.1, b.2.2.2.2.1, b.2.2.2.2.2.1, b.2.2.2.2.2.2.1, b.2.2.2.2.2.2.2.1, b.2.2.2.2.2.2.2.2.1, b.2.2.2.2.2.2.2.2.2.1, b.2.2.2.2.2.2.2.2.2.2.1, b.2.2.2.2.2.2.2.2.2.2.2.1, b.2.2.2.2.2.2.2.2.2.2.2.2.1, b.2.2.2.2.2.2.2.2.2.2.2.2.2, true)
theorem FnExactImportHand : ∀ (a0 : ByteArray), a0.size ≤ maxLen → ∃ k, laws_FnExactImportHand.f k a0 = some true := by
  intro s hs
  by_cases h1 : (s.size : Int) > 1048576
  · exact ⟨0, by unfold laws_FnExactImportHand.f; rw [if_pos h1]⟩
  by_cases h2 : s.size ≤ 100
  · have e1 : Ev (fun k => spec_ImportHand.f k s) (giv (flat ((splV s 59).foldl stepV (hd0, 0)))) := by
      refine Ev.congr (fun k => by unfold spec_ImportHand.f spec_imGiven.f; rw [Option.bind_some, if_pos (by simpa using (show (s.size : Int) ≤ 100 by omega))]) ?_
      exact Ev.bind (spec_imRead_ev s (by omega)) (Ev.now _)
    have e2 : Ev (fun k => impl_ImportHand.f k s) (giv (flat ((splV s 59).foldl stepV (hd0, 0)))) := by
      refine Ev.congr (fun k => by unfold impl_ImportHand.f; rw [if_neg (by omega)]) ?_
      exact Ev.bind (impl_imported_ev s (by omega)) (Ev.now _)
    have e : Ev (fun k => laws_FnExactImportHand.f k s) true := by
      refine Ev.congr (fun k => by unfold laws_FnExactImportHand.f; rw [if_neg h1]) ?_
      refine Ev.bind e1 (Ev.bind e2 ?_)
      generalize giv (flat ((splV s 59).foldl stepV (hd0, 0))) = t
      refine Ev.congr (fun k => by rw [eqHand_self, Option.bind_some, if_pos rfl, if_pos rfl, if_pos (by simp)]) (Ev.now true)
    exact e.rounds
  · refine ⟨0, ?_⟩
    unfold laws_FnExactImportHand.f spec_ImportHand.f spec_imGiven.f impl_ImportHand.f
    rw [if_neg h1, Option.bind_some, if_neg (by simp; omega), Option.bind_some, if_pos (by omega), Option.bind_some, eqHand_self]
    rfl
end Go.Proofs.YtcicpmhcmlfhbaaGreatDoor.Pure
