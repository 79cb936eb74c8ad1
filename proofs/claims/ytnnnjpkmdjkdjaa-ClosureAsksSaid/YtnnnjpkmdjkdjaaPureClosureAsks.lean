/- The plain law ClosureAsks. -/
import Derived.Test.YtnnnjpkmdjkdjaaA0
import Derived.Test.YtnnnjpkmdjkdjaaA24
import Derived.Test.YtnnnjpkmdjkdjaaPlainMap
namespace Go.Proofs.Ytnnnjpkmdjkdjaa.Pure
open Go.RowKit Go.Proofs.YtnnnjpkmdjkdjaaW.PrintWords Go.Proofs.Ytnnnjpkmdjkdjaa.A Go.Proofs.Ytnnnjpkmdjkdjaa.HEv Go.Proofs.Ytnnnjpkmdjkdjaa.Plain
set_option linter.unusedVariables false
set_option linter.unusedSimpArgs false
theorem asks_true (l : List S28) (a b c e) (x y z : Int) : Ev (fun k => skiarealaw52_ClosureAsks.j0 k l true a b c e x y z) true := by
  refine Ev.step (fun _ => rfl) ?_
  simp only [skiarealaw52_ClosureAsks.j0]
  exact ev_if_pos trivial (ev_some rfl)
theorem asks_false (l : List S28) (h : Plain.Good l) (a b) (c : List S56) (hc : c.length ≤ 64) (e) (x y z : Int) : Ev (fun k => skiarealaw52_ClosureAsks.j0 k l false a b c e x y z) true := by
  have hl : l.length ≤ 1000000 := Nat.le_trans h.1 (by decide)
  refine Ev.step (fun _ => rfl) ?_
  simp only [skiarealaw52_ClosureAsks.j0]
  refine ev_if_neg (by simp) (ev_bind (of_ev l hl x y) (ev_bind (refOf_ev l hl x y) ?_))
  rw [ofv_rof h]
  refine ev_bind (sameInts_refl _ (Nat.le_trans (rof_len _ _ _) (by decide))) (ev_if_pos rfl (ev_bind_some (crun_eq a b c e l y) (ev_bind (refRun_ev a b c e (Nat.le_trans hc (by decide)) hl h y) (ev_if_pos (by simp) (ev_bind_some (lift_eq l y) (ev_bind (refLift_ev hl h y) (ev_some ?_)))))))
  simp
theorem ClosureAsks : ∀ (s0 : S41) (l1 : List (S28)) (s2 : S30), (ok41 s0) → ((∀ y ∈ l1, ok28 y) ∧ l1.length * 32 ≤ 140737488351232 ∧ l1.length ≤ 9223372036854775807) → (ok30 s2) → ∃ k, skiarealaw52_ClosureAsks.f k (s0.f0) (s0.f1) (s0.f2) (s0.f3) l1 (s2.f0) (s2.f1) (s2.f2) = some true := by
  intro s0 l1 s2 _ _ _
  refine Ev.rounds (g := fun k => skiarealaw52_ClosureAsks.f k (s0.f0) (s0.f1) (s0.f2) (s0.f3) l1 (s2.f0) (s2.f1) (s2.f2)) ?_
  simp only [skiarealaw52_ClosureAsks.f]
  refine ev_bind alive_ev (ev_if_pos rfl (ev_bind (lawRight_ev l1) ?_))
  by_cases h : rv l1 = 0
  · refine ev_if_pos (by simp [h]) ?_
    obtain ⟨v, hv⟩ := mapRight_tot s0.f0 s0.f1 s0.f2 s0.f3
    refine ev_bind hv ?_
    by_cases h0 : v = 0
    · rw [show (v != 0) = false by simp [h0]]
      exact asks_false l1 (rv_zero.1 h) _ _ _ (mapRight_runs hv h0) _ _ _ _
    · rw [show (v != 0) = true by simp [h0]]
      exact asks_true _ _ _ _ _ _ _ _
  · exact ev_if_neg (by simp [h]) (asks_true _ _ _ _ _ _ _ _)
end Go.Proofs.Ytnnnjpkmdjkdjaa.Pure
