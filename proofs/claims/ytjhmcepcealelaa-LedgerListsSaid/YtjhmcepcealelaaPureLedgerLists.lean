/- The plain law LedgerLists: Accounts and Of of the program and of the reference agree, at any list of at most 200 postings and any account. -/
import Derived.Test.YtjhmcepcealelaaPlainB
namespace Go.Proofs.Ytjhmcepcealelaa.Pure
open Go.RowKit Go.Proofs.YtjhmcepcealelaaW.PrintWords Go.Proofs.Ytjhmcepcealelaa.A Go.Proofs.Ytjhmcepcealelaa.HEv Go.Proofs.Ytjhmcepcealelaa.Plain
set_option linter.unusedVariables false
set_option linter.unusedSimpArgs false
theorem LedgerLists : ∀ (l0 : List (S28)) (a1 : Int), ((∀ y ∈ l0, ok28 y) ∧ l0.length * 32 ≤ 140737488351232 ∧ l0.length ≤ 9223372036854775807) → ((Lit.int .i64 a1).wf = true) → ∃ k, skiarealaw09_LedgerLists.f k l0 a1 = some true := by
  intro l0 a1 h0 _
  refine Ev.rounds (g := fun k => skiarealaw09_LedgerLists.f k l0 a1) ?_
  simp only [skiarealaw09_LedgerLists.f]
  refine ev_bind alive_ev (ev_if_pos rfl ?_)
  by_cases h : (l0.length : Int) > 200
  · exact ev_if_pos h (ev_some rfl)
  · have h1 := accs_length l0 []
    have h2 := ofs_le a1 l0
    simp only [List.length_nil] at h1
    refine ev_if_neg h (ev_bind_some (acc_eq l0 (by omega) (fun p hp => ?_)) (ev_bind (refAcc_ev l0 (by omega)) (ev_bind (sameInts_refl _ (by omega)) (ev_if_pos rfl (ev_bind (of_ev a1 l0 (by omega)) (ev_bind (refOf_ev a1 l0 (by omega)) (ev_bind (same_refl _ (by omega)) (ev_some rfl))))))))
    have h3 := h0.1 p hp
    exact ⟨in64_of h3.2.1, in64_of h3.2.2.1⟩
end Go.Proofs.Ytjhmcepcealelaa.Pure
