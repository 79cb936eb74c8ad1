/- The plain law BlastFires. -/
import Derived.Test.YtjlfaoaoinhebaaA0
import Derived.Test.YtjlfaoaoinhebaaA7
import Derived.Test.YtjlfaoaoinhebaaA30
import Derived.Test.YtjlfaoaoinhebaaPlain
namespace Go.Proofs.Ytjlfaoaoinhebaa.Pure
open Go.RowKit Go.Proofs.YtjlfaoaoinhebaaW.PrintWords Go.Proofs.Ytjlfaoaoinhebaa.A Go.Proofs.Ytjlfaoaoinhebaa.HEv Go.Proofs.Ytjlfaoaoinhebaa.Plain
set_option linter.unusedVariables false
set_option linter.unusedSimpArgs false
theorem chg_len (st t : Int) (cv : S30 → Int) (l : List S30) (i : Int) : (chg st t cv l i).1.length ≤ l.length := by
  unfold chg blast_Clear.chg
  repeat' split
  all_goals simp
theorem BlastFires : ∀ (l0 : List (S30)) (a1 : Int) (a2 : Int) (a3 : Bool) (a4 : Bool) (a5 : Int), ((∀ y ∈ l0, ok30 y) ∧ l0.length * 56 ≤ 140737488351232 ∧ l0.length ≤ 9223372036854775807) → ((Lit.int .i64 a1).wf = true) → ((Lit.int .i64 a2).wf = true) → ((Lit.int .i64 a5).wf = true) → ∃ k, skiarealaw51_BlastFires.f k l0 a1 a2 a3 a4 a5 = some true := by
  intro l id by_ wk em t _ _ _ _
  refine Ev.rounds (g := fun k => skiarealaw51_BlastFires.f k l id by_ wk em t) ?_
  simp only [skiarealaw51_BlastFires.f]
  refine ev_bind alive_ev (ev_if_pos rfl (ev_bind (refRight_ev l) ?_))
  by_cases h : rv l = 0
  · have hg := rv_zero.1 h
    have hl : l.length ≤ 1000000 := Nat.le_trans hg.1 (by decide)
    have hc := fun st cv => Nat.le_trans (chg_len st t cv l (ix l id)) hl
    exact ev_if_pos h (ev_bind_some (fire_eq l hl id by_ wk em t) (ev_bind (refFire_ev l hl id by_ wk em t) (ev_bind_some (end_eq l hl id t) (ev_bind (refEnd_ev l hl id t) (ev_bind_some (abort_eq l hl id t) (ev_bind (refAbort_ev l hl hg.2.1 id t) (ev_bind (same_refl _ (hc _ _)) (ev_if_pos rfl (ev_if_pos rfl (ev_bind (same_refl _ (hc _ _)) (ev_if_pos rfl (ev_if_pos rfl (ev_bind (same_refl _ (hc _ _)) (ev_if_pos rfl (ev_some (by simp))))))))))))))))
  · exact ev_if_neg h (ev_some rfl)
end Go.Proofs.Ytjlfaoaoinhebaa.Pure
