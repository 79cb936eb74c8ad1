/- The plain law LedgerRight: the program's Right and the reference's agree, at any list; no condition. -/
import Derived.Test.YtjhmcepcealelaaPlain
namespace Go.Proofs.Ytjhmcepcealelaa.Pure
open Go.RowKit Go.Proofs.YtjhmcepcealelaaW.PrintWords Go.Proofs.Ytjhmcepcealelaa.A Go.Proofs.Ytjhmcepcealelaa.HEv Go.Proofs.Ytjhmcepcealelaa.Plain
set_option linter.unusedVariables false
theorem right_j0 (l0 : List S28) (b : Bool) : Ev (fun k => skiarealaw09_LedgerRight.j0 k l0 b) true := by
  refine Ev.step (fun _ => rfl) ?_
  simp only [skiarealaw09_LedgerRight.j0]
  cases b with
  | true => exact ev_if_pos rfl (ev_some rfl)
  | false =>
    refine ev_if_neg (by simp) (ev_bind_some (ledgerRight_eq l0) (ev_bind (refRight_ev l0) (ev_some ?_)))
    simp
theorem LedgerRight : ∀ (l0 : List (S28)), ((∀ y ∈ l0, ok28 y) ∧ l0.length * 32 ≤ 140737488351232 ∧ l0.length ≤ 9223372036854775807) → ∃ k, skiarealaw09_LedgerRight.f k l0 = some true := by
  intro l0 _
  refine Ev.rounds (g := fun k => skiarealaw09_LedgerRight.f k l0) ?_
  simp only [skiarealaw09_LedgerRight.f]
  refine ev_bind alive_ev (ev_if_pos rfl ?_)
  by_cases h : (l0.length : Int) > 300
  · exact ev_if_pos h (right_j0 _ _)
  · exact ev_if_neg h (right_j0 _ _)
end Go.Proofs.Ytjhmcepcealelaa.Pure
