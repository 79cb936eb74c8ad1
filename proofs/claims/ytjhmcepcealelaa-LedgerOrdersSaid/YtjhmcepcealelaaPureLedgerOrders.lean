/- The plain law LedgerOrders: sums do not depend on the order of the postings, and add up over two parts; any right list of at most 200 postings, any cut and account. -/
import Derived.Test.YtjhmcepcealelaaPlainB
namespace Go.Proofs.Ytjhmcepcealelaa.Pure
open Go.RowKit Go.Proofs.YtjhmcepcealelaaW.PrintWords Go.Proofs.Ytjhmcepcealelaa.A Go.Proofs.Ytjhmcepcealelaa.HEv Go.Proofs.Ytjhmcepcealelaa.Plain
set_option linter.unusedVariables false
set_option linter.unusedSimpArgs false
theorem accs_reverse (l : List S28) : ledger_Accounts.accs [] l.reverse = ledger_Accounts.accs [] l := by
  refine ledger_Accounts.sorted_eq (ledger_Accounts.accs_sorted _ _ List.Pairwise.nil) (ledger_Accounts.accs_sorted _ _ List.Pairwise.nil) (fun x => ?_)
  rw [ledger_Accounts.mem_accs, ledger_Accounts.mem_accs]
  simp only [List.mem_reverse]
theorem ofs_reverse (a : Int) (l : List S28) : (ofs a l.reverse).length = (ofs a l).length := by
  unfold ofs
  rw [List.filter_reverse, List.length_reverse]
theorem orders_end (l : List S28) (hl : l.length ≤ 200) (hr : rightv l = 0) (cut a : Int) (hc : 0 ≤ cut ∧ cut ≤ 255) : Ev (fun k => skiarealaw09_LedgerOrders.l0 k l cut a l.reverse (-1)) true := by
  have ha := (amounts_of hr).1
  have hrev : Amounts l.reverse := fun p hp => ha p (List.mem_reverse.1 hp)
  have h1 := (right_ok hr).2
  have bi := tin_bound a l ha
  have bo := tout_bound a l ha
  refine Ev.step (fun _ => rfl) ?_
  simp only [skiarealaw09_LedgerOrders.l0]
  rw [HEv.wrap_small (x := (l.length : Int) + 1) (by omega) (by omega), HEv.wrap_small (x := cut) (by omega) (by omega)]
  have hn : 0 ≤ Int.tmod cut ((l.length : Int) + 1) ∧ Int.tmod cut ((l.length : Int) + 1) ≤ l.length := by
    rw [Int.tmod_eq_emod_of_nonneg hc.1]
    have h2 := Int.emod_nonneg cut (show ((l.length : Int) + 1) ≠ 0 by omega)
    have h3 := Int.emod_lt_of_pos cut (show 0 < ((l.length : Int) + 1) by omega)
    omega
  generalize Int.tmod cut ((l.length : Int) + 1) = n at hn ⊢
  have hat : Amounts (l.take n.toNat) := fun p hp => ha p (List.mem_of_mem_take hp)
  have had : Amounts (l.drop n.toNat) := fun p hp => ha p (List.mem_of_mem_drop hp)
  have e1 : tin a (l.take n.toNat) + tin a (l.drop n.toNat) = tin a l := by rw [← tin_append, List.take_append_drop]
  have e2 : tout a (l.take n.toNat) + tout a (l.drop n.toNat) = tout a l := by rw [← tout_append, List.take_append_drop]
  have e3 := tin_reverse a l
  have e4 := tout_reverse a l
  have eb : bal a l.reverse = bal a l := by unfold bal; rw [e3, e4]
  have bb := bal_bound a l (by omega) ha
  have la := accs_length l []
  simp only [List.length_nil] at la
  have hw : ∀ p ∈ l, ledger_Accounts.in64 p.f1 = true ∧ ledger_Accounts.in64 p.f2 = true := fun p hp => by
    have := (h1 p hp).1
    exact ⟨in64_of (wf_i64.2 (by omega)), in64_of (wf_i64.2 (by omega))⟩
  refine ev_if_neg (by omega) (ev_if_neg (by omega) (ev_bind (turn_ev a l (by omega) ha) (ev_if_pos hn.1 (ev_if_pos hn.2 (ev_bind (turn_ev a _ (by simp; omega) hat) (ev_bind (turn_ev a _ (by simp; omega) had) (ev_bind (turn_ev a _ (by simp; omega) hrev) ?_)))))))
  refine ev_if_pos (by rw [e1]; exact (HEv.wrap_small (by omega) (by omega)).symm) (ev_if_pos (by rw [e2]; exact (HEv.wrap_small (by omega) (by omega)).symm) (ev_if_pos e3.symm (ev_if_pos e4.symm (ev_bind (bal_ev a l (by omega) ha) ?_))))
  refine ev_if_pos (HEv.wrap_small (by omega) (by omega)).symm (ev_bind (bal_ev a _ (by simp; omega) hrev) (ev_if_pos ?_ ?_))
  · rw [eb]
    exact (HEv.wrap_small (by omega) (by omega)).symm
  refine ev_bind_some (acc_eq l.reverse (by simp; omega) (fun p hp => hw p (List.mem_reverse.1 hp))) (ev_bind_some (acc_eq l (by omega) hw) ?_)
  rw [accs_reverse]
  refine ev_bind (sameInts_refl _ (by omega)) (ev_if_pos rfl (ev_bind (of_ev a _ (by simp; omega)) (ev_bind (of_ev a _ (by omega)) (ev_some ?_))))
  rw [ofs_reverse, beq_iff_eq]
theorem orders_l0 (l : List S28) (hl : l.length ≤ 200) (hr : rightv l = 0) (cut a : Int) (hc : 0 ≤ cut ∧ cut ≤ 255) : ∀ i : Nat, i ≤ l.length → Ev (fun k => skiarealaw09_LedgerOrders.l0 k l cut a (l.drop i).reverse ((i : Int) - 1)) true
  | 0, _ => by
    rw [List.drop_zero]
    exact orders_end l hl hr cut a hc
  | i + 1, h => by
    have hi : i < l.length := by omega
    have ih := orders_l0 l hl hr cut a hc i (by omega)
    refine Ev.step (fun _ => rfl) ?_
    simp only [skiarealaw09_LedgerOrders.l0]
    rw [show ((i + 1 : Nat) : Int) - 1 = (i : Int) from by omega]
    refine ev_if_pos (by omega) (ev_if_pos (by omega) (ev_if_pos (by omega) (ev_if_pos (by simp; omega) ?_)))
    rw [rd_at l i hi, HEv.wrap_small (x := (i : Int) - 1) (by omega) (by omega)]
    rw [List.drop_eq_getElem_cons hi, List.reverse_cons] at ih
    exact ih
theorem orders_j0 (l : List S28) (hl : l.length ≤ 200) (cut a : Int) (hc : 0 ≤ cut ∧ cut ≤ 255) (b : Bool) (hb : b = false → rightv l = 0) : Ev (fun k => skiarealaw09_LedgerOrders.j0 k l cut a b) true := by
  refine Ev.step (fun _ => rfl) ?_
  simp only [skiarealaw09_LedgerOrders.j0]
  cases b with
  | true => exact ev_if_pos rfl (ev_some rfl)
  | false =>
    refine ev_if_neg (by simp) ?_
    rw [HEv.wrap_small (x := (l.length : Int) - 1) (by omega) (by omega)]
    have h := orders_l0 l hl (hb rfl) cut a hc l.length (Nat.le_refl _)
    rw [List.drop_length] at h
    exact h
theorem LedgerOrders : ∀ (l0 : List (S28)) (a1 : Int) (a2 : Int), ((∀ y ∈ l0, ok28 y) ∧ l0.length * 32 ≤ 140737488351232 ∧ l0.length ≤ 9223372036854775807) → ((Lit.int .u8 a1).wf = true) → ((Lit.int .i64 a2).wf = true) → ∃ k, skiarealaw09_LedgerOrders.f k l0 a1 a2 = some true := by
  intro l0 a1 a2 _ h1 _
  refine Ev.rounds (g := fun k => skiarealaw09_LedgerOrders.f k l0 a1 a2) ?_
  simp only [skiarealaw09_LedgerOrders.f]
  refine ev_bind alive_ev (ev_if_pos rfl ?_)
  by_cases h : (l0.length : Int) > 200
  · refine ev_if_pos h ?_
    refine Ev.step (fun _ => rfl) ?_
    simp only [skiarealaw09_LedgerOrders.j0]
    exact ev_if_pos trivial (ev_some rfl)
  · refine ev_if_neg h (ev_bind_some (ledgerRight_eq l0) (orders_j0 l0 (by omega) a1 a2 (wf_u8.1 h1) _ (fun hb => ?_)))
    simpa using hb
end Go.Proofs.Ytjhmcepcealelaa.Pure
