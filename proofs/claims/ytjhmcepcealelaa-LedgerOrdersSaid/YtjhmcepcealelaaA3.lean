-- PRINTED by print.py (a twelfth state) out of the translation. Not trusted: Lean checks it.
import Derived.Test.YtjhmcepcealelaaA0
import Derived.Test.YtjhmcepcealelaaA2
namespace Go.Proofs.Ytjhmcepcealelaa.A
open Go.RowKit Go.Proofs.YtjhmcepcealelaaW.PrintWords Go.Proofs.YtjhmcepcealelaaW.PrintLast Go.Proofs.YtjhmcepcealelaaW.PrintMore
attribute [local go_sem] max2_int min2_int max_two min_two max_three min_three max_four min_four   -- for this text's walks alone
set_option linter.unusedVariables false
set_option linter.unusedSimpArgs false

/-! ### ledger_check: function 26 -/
-- by hand: ledger.check.tpl
def ledger_check.acc (n : Int) : Bool := decide (0 ≤ n) && decide (n ≤ 9999)
def ledger_check.val (a0_0 a0_1 a0_2 a0_3 : Int) : Int := if a0_0 < 1 then 2 else if 1000000000 < a0_0 then 2 else if ledger_check.acc a0_1 = false then 2 else if ledger_check.acc a0_2 = false then 2 else if a0_3 < 1 then 2 else if 1099511627776 < a0_3 then 2 else if a0_1 = a0_2 then 1 else 0
def ledger_check.f (a0_0 : Int) (a0_1 : Int) (a0_2 : Int) (a0_3 : Int) : Option (Int) := some (ledger_check.val a0_0 a0_1 a0_2 a0_3)
theorem ledger_check.acc_f (n : Int) : ledger_check_1.f n = some (ledger_check.acc n) := by
  unfold ledger_check_1.f ledger_check.acc
  by_cases h : n ≥ 0 <;> simp [h] <;> omega
theorem ledger_check.acc_calls (n : Int) (w : World) (b : Bool) (h : ledger_check.acc n = b) : Calls Try.prog 31 #[.int .i64 n] w fun e w' => e = .returned (.bool b) ∧ Drawn0 w w' :=
  ledger_check_1.calls n b w (h ▸ ledger_check.acc_f n)
set_option maxHeartbeats 4000000 in
set_option maxRecDepth 100000 in
theorem ledger_check.calls (a0_0 : Int) (a0_1 : Int) (a0_2 : Int) (a0_3 : Int) (r : Int) (w : World) (h : ledger_check.f a0_0 a0_1 a0_2 a0_3 = some r) :
    Calls Try.prog 26 #[.agg #[.int .i64 a0_0, .int .i64 a0_1, .int .i64 a0_2, .int .i64 a0_3]] w fun e w' => e = .returned (.int .i64 r) ∧ Below w.heap.size w w' := by
  have hu := Try.underlying28
  have H := Option.some.inj h
  clear h
  unfold ledger_check.val at H
  by_cases h0 : a0_0 < 1
  · rw [if_pos h0] at H
    obtain rfl := H
    have h0b : decide (a0_0 < 1) = true := decide_eq_true h0
    clear h0
    go_enter Try.func26, Try.ntmps26
    go_wp2_with (first | (go_at_call 31; refine (ledger_check.acc_calls _ _ _ (by assumption)).mono ?_; rintro e w' ⟨rfl, ⟨nd, rfl⟩⟩))
    go_ret
    exact ⟨rfl, by repeat (first | exact Below.refl _ _ | apply below_alloc | apply pw_below_drewN | apply below_drew1)⟩
  · rw [if_neg h0] at H
    have h0b : decide (a0_0 < 1) = false := decide_eq_false h0
    clear h0
    by_cases h1 : 1000000000 < a0_0
    · rw [if_pos h1] at H
      obtain rfl := H
      have h1b : decide (1000000000 < a0_0) = true := decide_eq_true h1
      clear h1
      go_enter Try.func26, Try.ntmps26
      go_wp2_with (first | (go_at_call 31; refine (ledger_check.acc_calls _ _ _ (by assumption)).mono ?_; rintro e w' ⟨rfl, ⟨nd, rfl⟩⟩))
      go_ret
      exact ⟨rfl, by repeat (first | exact Below.refl _ _ | apply below_alloc | apply pw_below_drewN | apply below_drew1)⟩
    · rw [if_neg h1] at H
      have h1b : decide (1000000000 < a0_0) = false := decide_eq_false h1
      clear h1
      by_cases h2 : ledger_check.acc a0_1 = false
      · rw [if_pos h2] at H
        obtain rfl := H
        go_enter Try.func26, Try.ntmps26
        go_wp2_with (first | (go_at_call 31; refine (ledger_check.acc_calls _ _ _ (by assumption)).mono ?_; rintro e w' ⟨rfl, ⟨nd, rfl⟩⟩))
        go_ret
        exact ⟨rfl, by repeat (first | exact Below.refl _ _ | apply below_alloc | apply pw_below_drewN | apply below_drew1)⟩
      · rw [if_neg h2] at H
        have h2b : ledger_check.acc a0_1 = true := by simpa using h2
        clear h2
        by_cases h3 : ledger_check.acc a0_2 = false
        · rw [if_pos h3] at H
          obtain rfl := H
          go_enter Try.func26, Try.ntmps26
          go_wp2_with (first | (go_at_call 31; refine (ledger_check.acc_calls _ _ _ (by assumption)).mono ?_; rintro e w' ⟨rfl, ⟨nd, rfl⟩⟩))
          go_ret
          exact ⟨rfl, by repeat (first | exact Below.refl _ _ | apply below_alloc | apply pw_below_drewN | apply below_drew1)⟩
        · rw [if_neg h3] at H
          have h3b : ledger_check.acc a0_2 = true := by simpa using h3
          clear h3
          by_cases h4 : a0_3 < 1
          · rw [if_pos h4] at H
            obtain rfl := H
            have h4b : decide (a0_3 < 1) = true := decide_eq_true h4
            clear h4
            go_enter Try.func26, Try.ntmps26
            go_wp2_with (first | (go_at_call 31; refine (ledger_check.acc_calls _ _ _ (by assumption)).mono ?_; rintro e w' ⟨rfl, ⟨nd, rfl⟩⟩))
            go_ret
            exact ⟨rfl, by repeat (first | exact Below.refl _ _ | apply below_alloc | apply pw_below_drewN | apply below_drew1)⟩
          · rw [if_neg h4] at H
            have h4b : decide (a0_3 < 1) = false := decide_eq_false h4
            clear h4
            by_cases h5 : 1099511627776 < a0_3
            · rw [if_pos h5] at H
              obtain rfl := H
              have h5b : decide (1099511627776 < a0_3) = true := decide_eq_true h5
              clear h5
              go_enter Try.func26, Try.ntmps26
              go_wp2_with (first | (go_at_call 31; refine (ledger_check.acc_calls _ _ _ (by assumption)).mono ?_; rintro e w' ⟨rfl, ⟨nd, rfl⟩⟩))
              go_ret
              exact ⟨rfl, by repeat (first | exact Below.refl _ _ | apply below_alloc | apply pw_below_drewN | apply below_drew1)⟩
            · rw [if_neg h5] at H
              have h5b : decide (1099511627776 < a0_3) = false := decide_eq_false h5
              clear h5
              by_cases h6 : a0_1 = a0_2
              · rw [if_pos h6] at H
                obtain rfl := H
                have h6b : (a0_1 == a0_2) = true := beq_iff_eq.mpr h6
                clear h6
                go_enter Try.func26, Try.ntmps26
                go_wp2_with (first | (go_at_call 31; refine (ledger_check.acc_calls _ _ _ (by assumption)).mono ?_; rintro e w' ⟨rfl, ⟨nd, rfl⟩⟩))
                go_ret
                exact ⟨rfl, by repeat (first | exact Below.refl _ _ | apply below_alloc | apply pw_below_drewN | apply below_drew1)⟩
              · rw [if_neg h6] at H
                have h6b : (a0_1 == a0_2) = false := beq_eq_false_iff_ne.mpr h6
                clear h6
                obtain rfl := H
                go_enter Try.func26, Try.ntmps26
                go_wp2_with (first | (go_at_call 31; refine (ledger_check.acc_calls _ _ _ (by assumption)).mono ?_; rintro e w' ⟨rfl, ⟨nd, rfl⟩⟩))
                go_ret
                exact ⟨rfl, by repeat (first | exact Below.refl _ _ | apply below_alloc | apply pw_below_drewN | apply below_drew1)⟩

end Go.Proofs.Ytjhmcepcealelaa.A
