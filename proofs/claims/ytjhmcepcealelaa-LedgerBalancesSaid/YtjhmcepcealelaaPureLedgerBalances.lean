/- The plain law LedgerBalances: the sums of the program and of the reference agree, at any right list of at most 200 postings and any account. -/
import Derived.Test.YtjhmcepcealelaaPlainB
namespace Go.Proofs.Ytjhmcepcealelaa.Pure
open Go.RowKit Go.Proofs.YtjhmcepcealelaaW.PrintWords Go.Proofs.Ytjhmcepcealelaa.A Go.Proofs.Ytjhmcepcealelaa.HEv Go.Proofs.Ytjhmcepcealelaa.Plain
set_option linter.unusedVariables false
set_option linter.unusedSimpArgs false
theorem bal_j0 (l0 : List S28) (a : Int) (hl : l0.length ≤ 200) (b : Bool) (hb : b = false → rightv l0 = 0) : Ev (fun k => skiarealaw09_LedgerBalances.j0 k l0 a b) true := by
  refine Ev.step (fun _ => rfl) ?_
  simp only [skiarealaw09_LedgerBalances.j0]
  cases b with
  | true => exact ev_if_pos rfl (ev_some rfl)
  | false =>
    have ha := (amounts_of (hb rfl)).1
    refine ev_if_neg (by simp) (ev_bind (turn_ev a l0 (by omega) ha) (ev_bind (refTurn_ev a l0 (by omega) ha) (ev_if_pos rfl (ev_if_pos rfl (ev_bind (bal_ev a l0 (by omega) ha) (ev_bind (refBal_ev a l0 (by omega) ha) (ev_some ?_)))))))
    simp
theorem LedgerBalances : ∀ (l0 : List (S28)) (a1 : Int), ((∀ y ∈ l0, ok28 y) ∧ l0.length * 32 ≤ 140737488351232 ∧ l0.length ≤ 9223372036854775807) → ((Lit.int .i64 a1).wf = true) → ∃ k, skiarealaw09_LedgerBalances.f k l0 a1 = some true := by
  intro l0 a1 _ _
  refine Ev.rounds (g := fun k => skiarealaw09_LedgerBalances.f k l0 a1) ?_
  simp only [skiarealaw09_LedgerBalances.f]
  refine ev_bind alive_ev (ev_if_pos rfl ?_)
  by_cases h : (l0.length : Int) > 200
  · refine ev_if_pos h ?_
    refine Ev.step (fun _ => rfl) ?_
    simp only [skiarealaw09_LedgerBalances.j0]
    exact ev_if_pos trivial (ev_some rfl)
  · refine ev_if_neg h (ev_bind (refRight_ev l0) (bal_j0 l0 a1 (by omega) _ (fun hb => ?_)))
    simpa using hb
end Go.Proofs.Ytjhmcepcealelaa.Pure
