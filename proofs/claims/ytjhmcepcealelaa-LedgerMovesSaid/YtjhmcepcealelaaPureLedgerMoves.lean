/- The plain law LedgerMoves: a new posting changes two balances by its amount and no other one; any list of at most 200 postings, any posting and account. -/
import Derived.Test.YtjhmcepcealelaaPlainB
namespace Go.Proofs.Ytjhmcepcealelaa.Pure
open Go.RowKit Go.Proofs.YtjhmcepcealelaaW.PrintWords Go.Proofs.Ytjhmcepcealelaa.A Go.Proofs.Ytjhmcepcealelaa.HEv Go.Proofs.Ytjhmcepcealelaa.Plain
set_option linter.unusedVariables false
set_option linter.unusedSimpArgs false
theorem bal_snoc (a : Int) (l : List S28) (p : S28) : bal a (l ++ [p]) = bal a l + (if p.f2 = a then p.f3 else 0) - (if p.f1 = a then p.f3 else 0) := by
  unfold bal
  rw [tin_append, tout_append]
  simp only [tin, tout]
  omega
theorem moves_j1 (l : List S28) (hl : l.length ≤ 200) (p : S28) (hr : rightv l = 0) (hrx : rightv (l ++ [p]) = 0) : Ev (fun k => skiarealaw09_LedgerMoves.j1 k l (l ++ [p]) true p.f0 p.f1 p.f2 p.f3) true := by
  have ha := (amounts_of hr).1
  have hx := (amounts_of hrx).1
  have hp := (right_ok hrx).2 p (by simp)
  have hlx : (l ++ [p]).length ≤ 4000 := by simp; omega
  have b1 := bal_bound p.f1 l (by omega) ha
  have b2 := bal_bound p.f2 l (by omega) ha
  have e1 := bal_snoc p.f1 l p
  have e2 := bal_snoc p.f2 l p
  have n1 : ¬ p.f2 = p.f1 := fun e => hp.2 e.symm
  rw [if_neg n1, if_pos rfl] at e1
  rw [if_pos rfl, if_neg hp.2] at e2
  have hp3 := hp.1.2.2.2.2.2.2
  refine Ev.step (fun _ => rfl) ?_
  simp only [skiarealaw09_LedgerMoves.j1]
  refine ev_if_pos trivial (ev_bind (bal_ev _ _ hlx hx) (ev_bind (bal_ev _ _ (by omega) ha) (ev_if_pos ?_ (ev_bind (bal_ev _ _ hlx hx) (ev_bind (bal_ev _ _ (by omega) ha) (ev_some ?_))))))
  · rw [HEv.wrap_small (by omega) (by omega)]
    omega
  · rw [HEv.wrap_small (by omega) (by omega), beq_iff_eq]
    omega
theorem moves_j0 (l : List S28) (hl : l.length ≤ 200) (p : S28) (hr : rightv l = 0) (hrx : rightv (l ++ [p]) = 0) (a : Int) : Ev (fun k => skiarealaw09_LedgerMoves.j0 k l a (l ++ [p]) false p.f0 p.f1 p.f2 p.f3) true := by
  have ha := (amounts_of hr).1
  have hx := (amounts_of hrx).1
  have hlx : (l ++ [p]).length ≤ 4000 := by simp; omega
  have h1 := moves_j1 l hl p hr hrx
  refine Ev.step (fun _ => rfl) ?_
  simp only [skiarealaw09_LedgerMoves.j0]
  refine ev_if_neg (by simp) ?_
  by_cases e1 : a = p.f1
  · exact ev_if_pos e1 h1
  · refine ev_if_neg e1 ?_
    by_cases e2 : a = p.f2
    · exact ev_if_pos e2 h1
    · refine ev_if_neg e2 (ev_bind (bal_ev _ _ hlx hx) (ev_bind (bal_ev _ _ (by omega) ha) ?_))
      have e := bal_snoc a l p
      rw [if_neg (fun h => e2 h.symm), if_neg (fun h => e1 h.symm)] at e
      have : (bal a (l ++ [p]) == bal a l) = true := by rw [beq_iff_eq]; omega
      rw [this]
      exact h1
theorem moves_same (l : List S28) (a : Int) (x : List S28) (p : S28) : Ev (fun k => skiarealaw09_LedgerMoves.j0 k l a x true p.f0 p.f1 p.f2 p.f3) true := by
  refine Ev.step (fun _ => rfl) ?_
  simp only [skiarealaw09_LedgerMoves.j0]
  exact ev_if_pos trivial (ev_some rfl)
theorem LedgerMoves : ∀ (l0 : List (S28)) (s1 : S28) (a2 : Int), ((∀ y ∈ l0, ok28 y) ∧ l0.length * 32 ≤ 140737488351232 ∧ l0.length ≤ 9223372036854775807) → (ok28 s1) → ((Lit.int .i64 a2).wf = true) → ∃ k, skiarealaw09_LedgerMoves.f k l0 (s1.f0) (s1.f1) (s1.f2) (s1.f3) a2 = some true := by
  intro l0 s1 a2 _ _ _
  refine Ev.rounds (g := fun k => skiarealaw09_LedgerMoves.f k l0 (s1.f0) (s1.f1) (s1.f2) (s1.f3) a2) ?_
  simp only [skiarealaw09_LedgerMoves.f]
  refine ev_bind alive_ev (ev_if_pos rfl ?_)
  by_cases h : (l0.length : Int) > 200
  · exact ev_if_pos h (ev_some rfl)
  · refine ev_if_neg h (ev_bind (post_ev l0 (by omega) s1) ?_)
    by_cases h1 : (postv l0 s1).2 = 0
    · obtain ⟨hr, hrx, hpx, hx, _⟩ := postv_ok h1
      refine ev_if_pos h1 ?_
      rcases hx with e | ⟨_, e⟩
      · rw [e, show ((l0.length : Int) == (l0.length : Int)) = true from by simp]
        exact moves_same _ _ _ _
      · rw [e] at hrx ⊢
        rw [show ((((l0 ++ [s1]).length : Nat) : Int) == (l0.length : Int)) = false from by simp; omega]
        exact moves_j0 l0 (by omega) s1 hr hrx a2
    · exact ev_if_neg h1 (moves_same _ _ _ _)
end Go.Proofs.Ytjhmcepcealelaa.Pure
