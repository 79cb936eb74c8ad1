/- The plain law BlastChecks. -/
import Derived.Test.YtjlfaoaoinhebaaA0
import Derived.Test.YtjlfaoaoinhebaaA20
import Derived.Test.YtjlfaoaoinhebaaPlain
namespace Go.Proofs.Ytjlfaoaoinhebaa.Pure
open Go.RowKit Go.Proofs.YtjlfaoaoinhebaaW.PrintWords Go.Proofs.Ytjlfaoaoinhebaa.A Go.Proofs.Ytjlfaoaoinhebaa.HEv Go.Proofs.Ytjlfaoaoinhebaa.Plain
set_option linter.unusedVariables false
set_option linter.unusedSimpArgs false
theorem BlastChecks : ∀ (l0 : List (S30)), ((∀ y ∈ l0, ok30 y) ∧ l0.length * 56 ≤ 140737488351232 ∧ l0.length ≤ 9223372036854775807) → ∃ k, skiarealaw51_BlastChecks.f k l0 = some true := by
  intro l _
  refine Ev.rounds (g := fun k => skiarealaw51_BlastChecks.f k l) ?_
  simp only [skiarealaw51_BlastChecks.f]
  refine ev_bind alive_ev (ev_if_pos rfl ?_)
  by_cases h : (l.length : Int) > 80
  · exact ev_if_pos h (ev_some rfl)
  · exact ev_if_neg h (ev_bind_some (right_eq l) (ev_bind (refRight_ev l) (ev_some (by simp))))
end Go.Proofs.Ytjlfaoaoinhebaa.Pure
