/- The plain law BlastPlans. -/
import Derived.Test.YtjlfaoaoinhebaaA0
import Derived.Test.YtjlfaoaoinhebaaA22
import Derived.Test.YtjlfaoaoinhebaaPlain
namespace Go.Proofs.Ytjlfaoaoinhebaa.Pure
open Go.RowKit Go.Proofs.YtjlfaoaoinhebaaW.PrintWords Go.Proofs.Ytjlfaoaoinhebaa.A Go.Proofs.Ytjlfaoaoinhebaa.HEv Go.Proofs.Ytjlfaoaoinhebaa.Plain
set_option linter.unusedVariables false
set_option linter.unusedSimpArgs false
theorem planv_len (l : List S30) (m : S30) : (planv l m).1.length ≤ l.length + 1 := by
  unfold planv
  repeat' split
  all_goals simp
theorem BlastPlans : ∀ (l0 : List (S30)) (s1 : S30), ((∀ y ∈ l0, ok30 y) ∧ l0.length * 56 ≤ 140737488351232 ∧ l0.length ≤ 9223372036854775807) → (ok30 s1) → ∃ k, skiarealaw51_BlastPlans.f k l0 (s1.f0) (s1.f1) (s1.f2) (s1.f3) (s1.f4) (s1.f5.f0) (s1.f5.f1) = some true := by
  intro l m _ _
  refine Ev.rounds (g := fun k => skiarealaw51_BlastPlans.f k l (m.f0) (m.f1) (m.f2) (m.f3) (m.f4) (m.f5.f0) (m.f5.f1)) ?_
  simp only [skiarealaw51_BlastPlans.f]
  refine ev_bind alive_ev (ev_if_pos rfl (ev_bind (refRight_ev l) ?_))
  by_cases h : rv l = 0
  · have hg := rv_zero.1 h
    have hl : l.length ≤ 1000000 := Nat.le_trans hg.1 (by decide)
    have h1 := planv_len l m
    exact ev_if_pos h (ev_bind_some (plan_eq l hl m) (ev_bind (refPlan_ev l hl m) (ev_bind (same_refl _ (by have := hg.1; omega)) (ev_if_pos rfl (ev_some (by simp))))))
  · exact ev_if_neg h (ev_some rfl)
end Go.Proofs.Ytjlfaoaoinhebaa.Pure
