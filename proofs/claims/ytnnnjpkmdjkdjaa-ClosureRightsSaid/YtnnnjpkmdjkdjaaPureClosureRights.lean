/- The plain law ClosureRights. -/
import Derived.Test.YtnnnjpkmdjkdjaaA0
import Derived.Test.YtnnnjpkmdjkdjaaA17
import Derived.Test.YtnnnjpkmdjkdjaaPlainMap
namespace Go.Proofs.Ytnnnjpkmdjkdjaa.Pure
open Go.RowKit Go.Proofs.YtnnnjpkmdjkdjaaW.PrintWords Go.Proofs.Ytnnnjpkmdjkdjaa.A Go.Proofs.Ytnnnjpkmdjkdjaa.HEv Go.Proofs.Ytnnnjpkmdjkdjaa.Plain
set_option linter.unusedVariables false
set_option linter.unusedSimpArgs false
theorem ClosureRights : ∀ (l0 : List (S28)), ((∀ y ∈ l0, ok28 y) ∧ l0.length * 32 ≤ 140737488351232 ∧ l0.length ≤ 9223372036854775807) → ∃ k, skiarealaw52_ClosureRights.f k l0 = some true := by
  intro l0 _
  refine Ev.rounds (g := fun k => skiarealaw52_ClosureRights.f k l0) ?_
  simp only [skiarealaw52_ClosureRights.f]
  refine ev_bind alive_ev (ev_if_pos rfl ?_)
  by_cases h : (l0.length : Int) > 230
  · exact ev_if_pos h (ev_some rfl)
  · refine ev_if_neg h (ev_bind (right_ev l0) (ev_bind (refRight_ev l0) (ev_some ?_)))
    simp
end Go.Proofs.Ytnnnjpkmdjkdjaa.Pure
