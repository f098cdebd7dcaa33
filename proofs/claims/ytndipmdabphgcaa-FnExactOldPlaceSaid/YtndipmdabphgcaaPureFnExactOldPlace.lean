/- The law FnExactOldPlace, plainly: for every text of at most 1048576 bytes the program's and the reference's functions return the same place and the same bool. -/
import Derived.Test.YtndipmdabphgcaaPAx7
import Derived.Test.YtndipmdabphgcaaQOldPlace
namespace Go.Proofs.Ytndipmdabphgcaa.Pure
open Go.RowKit Go.Proofs.Ytndipmdabphgcaa.PA Go.Proofs.YtndipmdabphgcaaW.PrintWords Go.Proofs.YtndipmdabphgcaaW.PrintLast Go.Proofs.YtndipmdabphgcaaW.PrintMore

theorem FnExactOldPlace : laws_FnExactOldPlace.Pure := by
  intro s hs
  obtain ⟨K1, h1⟩ := spec_OldPlace_ev s
  obtain ⟨K2, h2⟩ := impl_OldPlace_ev s (by omega)
  refine ⟨K1 + K2, ?_⟩
  unfold laws_FnExactOldPlace.f
  split
  · rfl
  · rw [show spec_OldPlace.f (K1 + K2) s = _ from h1 _ (by omega), show impl_OldPlace.f (K1 + K2) s = _ from h2 _ (by omega)]
    generalize plPs (oldNm s) = p
    obtain ⟨a, b, c, d⟩ := p
    simp [laws_eqPlace.f]
end Go.Proofs.Ytndipmdabphgcaa.Pure
