/- The plain law LedgerPosts: the program's Post and the reference's agree, at any list of at most 200 postings and any posting. -/
import Derived.Test.YtjhmcepcealelaaPlainB
namespace Go.Proofs.Ytjhmcepcealelaa.Pure
open Go.RowKit Go.Proofs.YtjhmcepcealelaaW.PrintWords Go.Proofs.Ytjhmcepcealelaa.A Go.Proofs.Ytjhmcepcealelaa.HEv Go.Proofs.Ytjhmcepcealelaa.Plain
set_option linter.unusedVariables false
set_option linter.unusedSimpArgs false
theorem LedgerPosts : ∀ (l0 : List (S28)) (s1 : S28), ((∀ y ∈ l0, ok28 y) ∧ l0.length * 32 ≤ 140737488351232 ∧ l0.length ≤ 9223372036854775807) → (ok28 s1) → ∃ k, skiarealaw09_LedgerPosts.f k l0 (s1.f0) (s1.f1) (s1.f2) (s1.f3) = some true := by
  intro l0 s1 _ _
  refine Ev.rounds (g := fun k => skiarealaw09_LedgerPosts.f k l0 (s1.f0) (s1.f1) (s1.f2) (s1.f3)) ?_
  simp only [skiarealaw09_LedgerPosts.f]
  refine ev_bind alive_ev (ev_if_pos rfl ?_)
  by_cases h : (l0.length : Int) > 200
  · exact ev_if_pos h (ev_some rfl)
  · have hl := postv_length l0 s1
    exact ev_if_neg h (ev_bind (post_ev l0 (by omega) s1) (ev_bind (refPost_ev l0 (by omega) s1) (ev_if_pos rfl (ev_bind (same_refl _ (by omega)) (ev_some rfl)))))
end Go.Proofs.Ytjhmcepcealelaa.Pure
