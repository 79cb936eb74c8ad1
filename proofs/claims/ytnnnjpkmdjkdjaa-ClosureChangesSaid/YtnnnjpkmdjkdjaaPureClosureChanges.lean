/- The plain law ClosureChanges. -/
import Derived.Test.YtnnnjpkmdjkdjaaA0
import Derived.Test.YtnnnjpkmdjkdjaaA19
import Derived.Test.YtnnnjpkmdjkdjaaPlain
namespace Go.Proofs.Ytnnnjpkmdjkdjaa.Pure
open Go.RowKit Go.Proofs.YtnnnjpkmdjkdjaaW.PrintWords Go.Proofs.Ytnnnjpkmdjkdjaa.A Go.Proofs.Ytnnnjpkmdjkdjaa.HEv Go.Proofs.Ytnnnjpkmdjkdjaa.Plain
set_option linter.unusedVariables false
set_option linter.unusedSimpArgs false
theorem closev_len (l : List S28) (a b c e : Int) : (closev l a b c e).1.length ≤ l.length + 1 := by
  unfold closev
  repeat' split
  all_goals simp
theorem openv_len (l : List S28) (a b c : Int) : (openv l a b c).1.length ≤ l.length := by
  unfold openv
  split
  · simp
  · exact List.length_eraseIdx_le _ _
theorem ClosureChanges : ∀ (l0 : List (S28)) (s1 : S28) (s2 : S30), ((∀ y ∈ l0, ok28 y) ∧ l0.length * 32 ≤ 140737488351232 ∧ l0.length ≤ 9223372036854775807) → (ok28 s1) → (ok30 s2) → ∃ k, skiarealaw52_ClosureChanges.f k l0 (s1.f0) (s1.f1) (s1.f2) (s1.f3) (s2.f0) (s2.f1) (s2.f2) = some true := by
  intro l s1 s2 _ _ _
  refine Ev.rounds (g := fun k => skiarealaw52_ClosureChanges.f k l (s1.f0) (s1.f1) (s1.f2) (s1.f3) (s2.f0) (s2.f1) (s2.f2)) ?_
  simp only [skiarealaw52_ClosureChanges.f]
  refine ev_bind alive_ev (ev_if_pos rfl (ev_bind (lawRight_ev l) ?_))
  by_cases h : rv l = 0
  · have hg := rv_zero.1 h
    have hl : l.length ≤ 1000000 := Nat.le_trans hg.1 (by decide)
    have h1 := closev_len l s1.f0 s1.f1 s1.f2 s1.f3
    have h2 := openv_len l s2.f0 s2.f1 s2.f2
    have h3 := hg.1
    exact ev_if_pos (by simp [h]) (ev_bind_some (close_eq l hl _ _ _ _) (ev_bind (refClose_ev l hl _ _ _ _) (ev_bind_some (open_eq l hl _ _ _) (ev_bind (refOpen_ev l hl _ _ _) (ev_bind (same_refl _ (by omega)) (ev_if_pos rfl (ev_if_pos rfl (ev_bind (same_refl _ (by omega)) (ev_if_pos rfl (ev_some (by simp)))))))))))
  · exact ev_if_neg (by simp [h]) (ev_some rfl)
end Go.Proofs.Ytnnnjpkmdjkdjaa.Pure
