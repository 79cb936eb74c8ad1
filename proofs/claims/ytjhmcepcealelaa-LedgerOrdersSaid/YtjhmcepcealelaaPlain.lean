/- The ledger's plain laws: what the program's and the reference's functions answer. -/
import Derived.Test.YtjhmcepcealelaaA
import Derived.Test.YtjhmcepcealelaaAR
import Derived.Test.YtjhmcepcealelaaHEv
namespace Go.Proofs.Ytjhmcepcealelaa.Plain
open Go.RowKit Go.Proofs.YtjhmcepcealelaaW.PrintWords Go.Proofs.Ytjhmcepcealelaa.A Go.Proofs.Ytjhmcepcealelaa.HEv
set_option linter.unusedVariables false
set_option linter.unusedSimpArgs false

theorem alive_ev : Ev (fun k => skiarealaw09_alive.f k) true := Ev.of (g := fun k => skiarealaw09_alive.f k) (fun k => skiarealaw09_alive.mono k) (k := 60) (by decide +kernel)

/-- A list's element by a number. -/
theorem rd_at (l : List S28) (i : Nat) (h : i < l.length) : rd_T28 l (i : Int) = l[i] := by simp [rd_T28, h]
theorem rdi_at (l : List Int) (i : Nat) (h : i < l.length) : rd l (i : Int) = l[i] := by simp [rd, h]

/-! ### lists held against themselves -/
theorem same_ev (l : List S28) (hl : l.length ≤ 1000000) : ∀ (d i : Nat), i + d = l.length → Ev (fun k => skiarearef09_Same.l0 k l l (i : Int)) true
  | 0, i, h => by
    refine Ev.step (fun _ => rfl) ?_
    simp only [skiarearef09_Same.l0]
    exact ev_if_neg (by omega) (ev_some rfl)
  | d + 1, i, h => by
    refine Ev.step (fun _ => rfl) ?_
    simp only [skiarearef09_Same.l0]
    refine ev_if_pos (by omega) (ev_if_pos (by omega) (ev_if_pos (by omega) (ev_if_neg (by simp) ?_)))
    rw [wrap_next (by omega)]
    exact same_ev l hl d (i + 1) (by omega)
theorem same_refl (l : List S28) (hl : l.length ≤ 1000000) : Ev (fun k => skiarearef09_Same.f k l l) true := by
  unfold skiarearef09_Same.f
  exact ev_if_pos rfl (same_ev l hl l.length 0 (by omega))
theorem sameInts_ev (l : List Int) (hl : l.length ≤ 1000000) : ∀ (d i : Nat), i + d = l.length → Ev (fun k => skiarearef09_SameInts.l0 k l l (i : Int)) true
  | 0, i, h => by
    refine Ev.step (fun _ => rfl) ?_
    simp only [skiarearef09_SameInts.l0]
    exact ev_if_neg (by omega) (ev_some rfl)
  | d + 1, i, h => by
    refine Ev.step (fun _ => rfl) ?_
    simp only [skiarearef09_SameInts.l0]
    refine ev_if_pos (by omega) (ev_if_pos (by omega) (ev_if_pos (by omega) (ev_if_pos (by trivial) ?_)))
    rw [wrap_next (by omega)]
    exact sameInts_ev l hl d (i + 1) (by omega)
theorem sameInts_refl (l : List Int) (hl : l.length ≤ 1000000) : Ev (fun k => skiarearef09_SameInts.f k l l) true := by
  unfold skiarearef09_SameInts.f
  exact ev_if_pos rfl (sameInts_ev l hl l.length 0 (by omega))

/-! ### Right -/
def rightv (l : List S28) : Int := if 2000 < l.length then 4 else ledger_Right.go [] l
theorem ledgerRight_eq (l : List S28) : ledger_Right.f l = some (rightv l) := rfl
def refs (l : List S28) : List Int := (l.map S28.f0).reverse
theorem refs_take (l : List S28) (i : Nat) (h : i < l.length) : refs (l.take (i + 1)) = l[i].f0 :: refs (l.take i) := by
  unfold refs
  rw [List.take_succ_eq_append_getElem h, List.map_append, List.reverse_append]
  rfl
/-- The reference's inner loop. -/
theorem refRight_l1 (l : List S28) (hl : l.length ≤ 1000000) (i : Nat) (hi : i < l.length) (a b c e : Int) (v : Int)
    (hn : (∀ q, q < i → ∀ h : q < l.length, l[q].f0 ≠ a) → Ev (fun k => skiarearef09_Right.l0 k l (wrap64 ((i : Int) + 1))) v) (hy : ¬ (∀ q, q < i → ∀ h : q < l.length, l[q].f0 ≠ a) → v = 7) :
    ∀ (d j : Nat), j + d = i → (∀ q, q < j → ∀ h : q < l.length, l[q].f0 ≠ a) → Ev (fun k => skiarearef09_Right.l1 k l (i : Int) (j : Int) a b c e) v
  | 0, j, h, hj => by
    refine Ev.step (fun _ => rfl) ?_
    simp only [skiarearef09_Right.l1]
    obtain rfl : j = i := by omega
    exact ev_if_neg (by omega) (hn hj)
  | d + 1, j, h, hj => by
    refine Ev.step (fun _ => rfl) ?_
    simp only [skiarearef09_Right.l1]
    refine ev_if_pos (by omega) (ev_if_pos (by omega) (ev_if_pos (by omega) ?_))
    rw [rd_at l j (by omega)]
    by_cases e0 : l[j].f0 = a
    · exact ev_if_pos e0 (ev_some (hy (fun hh => hh j (by omega) (by omega) e0)).symm)
    · refine ev_if_neg e0 ?_
      rw [wrap_next (by omega)]
      refine refRight_l1 l hl i hi a b c e v hn hy d (j + 1) (by omega) (fun q hq hql => ?_)
      rcases Nat.lt_or_ge q j with h1 | h1
      · exact hj q h1 hql
      · obtain rfl : q = j := by omega
        exact e0
theorem val_cases (a b c e : Int) : ledger_check.val a b c e = if (a < 1 ∨ a > 1000000000 ∨ b < 0 ∨ b > 9999 ∨ c < 0 ∨ c > 9999 ∨ e < 1 ∨ e > 1099511627776) then 2 else if b = c then 1 else 0 := by
  unfold ledger_check.val ledger_check.acc
  by_cases h1 : a < 1 <;> by_cases h2 : 1000000000 < a <;> by_cases h3 : b < 0 <;> by_cases h4 : b > 9999 <;> by_cases h5 : c < 0 <;> by_cases h6 : c > 9999 <;> by_cases h7 : e < 1 <;> by_cases h8 : 1099511627776 < e <;> first | (simp [h1, h2, h7, h8]; done) | (simp only [h1, h2, h3, h4, h5, h6, h7, h8, if_true, if_false, true_or, or_true, false_or, gt_iff_lt, or_false, if_pos, if_neg, not_false_eq_true]; split <;> simp_all <;> omega)

theorem refRight_j1_true (l : List S28) (i : Int) (a b c e : Int) : Ev (fun k => skiarearef09_Right.j1 k l i true a b c e) 2 := by
  refine Ev.step (fun _ => rfl) ?_
  simp only [skiarearef09_Right.j1]
  exact ev_if_pos trivial (ev_some rfl)
theorem go_bad {seen : List Int} {p : S28} {ps : List S28} (h : p.f0 < 1 ∨ p.f0 > 1000000000 ∨ p.f1 < 0 ∨ p.f1 > 9999 ∨ p.f2 < 0 ∨ p.f2 > 9999 ∨ p.f3 < 1 ∨ p.f3 > 1099511627776) : 2 = ledger_Right.go seen (p :: ps) := by
  have hv : ledger_check.val p.f0 p.f1 p.f2 p.f3 = 2 := by rw [val_cases, if_pos h]
  simp [ledger_Right.go, hv]
theorem refRight_l0 (l : List S28) (hl : l.length ≤ 1000000) : ∀ (d i : Nat), i + d = l.length → Ev (fun k => skiarearef09_Right.l0 k l (i : Int)) (ledger_Right.go (refs (l.take i)) (l.drop i))
  | 0, i, h => by
    refine Ev.step (fun _ => rfl) ?_
    simp only [skiarearef09_Right.l0]
    refine ev_if_neg (by omega) (ev_some ?_)
    rw [List.drop_eq_nil_of_le (by omega)]
    rfl
  | d + 1, i, h => by
    have ih := refRight_l0 l hl d (i + 1) (by omega)
    have hi : i < l.length := by omega
    refine Ev.step (fun _ => rfl) ?_
    simp only [skiarearef09_Right.l0]
    refine ev_if_pos (by omega) (ev_if_pos (by omega) ?_)
    rw [rd_at l i hi, List.drop_eq_getElem_cons hi]
    by_cases h1 : l[i].f0 < 1
    · exact ev_if_pos h1 (ev_eq (refRight_j1_true _ _ _ _ _ _) (go_bad (by simp [h1])))
    refine ev_if_neg h1 ?_
    by_cases h2 : l[i].f0 > 1000000000
    · exact ev_if_pos h2 (ev_eq (refRight_j1_true _ _ _ _ _ _) (go_bad (by simp [h2])))
    refine ev_if_neg h2 ?_
    by_cases h3 : l[i].f1 < 0
    · exact ev_if_pos h3 (ev_eq (refRight_j1_true _ _ _ _ _ _) (go_bad (by simp [h3])))
    refine ev_if_neg h3 ?_
    by_cases h4 : l[i].f1 > 9999
    · exact ev_if_pos h4 (ev_eq (refRight_j1_true _ _ _ _ _ _) (go_bad (by simp [h4])))
    refine ev_if_neg h4 ?_
    by_cases h5 : l[i].f2 < 0
    · exact ev_if_pos h5 (ev_eq (refRight_j1_true _ _ _ _ _ _) (go_bad (by simp [h5])))
    refine ev_if_neg h5 ?_
    by_cases h6 : l[i].f2 > 9999
    · exact ev_if_pos h6 (ev_eq (refRight_j1_true _ _ _ _ _ _) (go_bad (by simp [h6])))
    refine ev_if_neg h6 ?_
    by_cases h7 : l[i].f3 < 1
    · exact ev_if_pos h7 (ev_eq (refRight_j1_true _ _ _ _ _ _) (go_bad (by simp [h7])))
    refine ev_if_neg h7 ?_
    by_cases h8 : l[i].f3 > 1099511627776
    · rw [decide_eq_true h8]
      exact ev_eq (refRight_j1_true _ _ _ _ _ _) (go_bad (by simp [h8]))
    rw [decide_eq_false h8]
    have hr : ¬ (l[i].f0 < 1 ∨ l[i].f0 > 1000000000 ∨ l[i].f1 < 0 ∨ l[i].f1 > 9999 ∨ l[i].f2 < 0 ∨ l[i].f2 > 9999 ∨ l[i].f3 < 1 ∨ l[i].f3 > 1099511627776) := by omega
    refine Ev.step (fun _ => rfl) ?_
    simp only [skiarearef09_Right.j1]
    refine ev_if_neg (by simp) ?_
    by_cases he : l[i].f1 = l[i].f2
    · refine ev_if_pos he (ev_some ?_)
      have hv : ledger_check.val l[i].f0 l[i].f1 l[i].f2 l[i].f3 = 1 := by rw [val_cases, if_neg hr, if_pos he]
      simp [ledger_Right.go, hv]
    refine ev_if_neg he ?_
    have hv : ledger_check.val l[i].f0 l[i].f1 l[i].f2 l[i].f3 = 0 := by rw [val_cases, if_neg hr, if_neg he]
    have hs : ((refs (l.take i)).contains l[i].f0 = true) ↔ ¬ (∀ q, q < i → ∀ h : q < l.length, l[q].f0 ≠ l[i].f0) := by
      rw [List.contains_iff_mem]
      unfold refs
      rw [List.mem_reverse, List.mem_map]
      constructor
      · rintro ⟨p, hp, e⟩ hh
        obtain ⟨q, hq, rfl⟩ := List.getElem_of_mem hp
        rw [List.length_take] at hq
        rw [List.getElem_take] at e
        exact hh q (by omega) (by omega) e
      · intro hh
        simp only [Classical.not_forall, Classical.not_not] at hh
        obtain ⟨q, hq, hql, e⟩ := hh
        exact ⟨l[q], List.mem_take_iff_getElem.2 ⟨q, by omega, rfl⟩, e⟩
    refine refRight_l1 l hl i hi _ _ _ _ _ (fun hn => ?_) (fun hn => ?_) i 0 (by omega) (fun q hq => by omega)
    · rw [wrap_next (by omega)]
      refine ev_eq ih ?_
      rw [refs_take l i hi]
      have : ¬ ((refs (l.take i)).contains l[i].f0 = true) := fun h => (hs.1 h) hn
      simp only [ledger_Right.go, hv]
      rw [if_pos trivial, if_neg this]
    · simp only [ledger_Right.go, hv]
      rw [if_pos trivial, if_pos (hs.2 hn)]
theorem refRight_ev (l : List S28) : Ev (fun k => skiarearef09_Right.f k l) (rightv l) := by
  unfold skiarearef09_Right.f rightv
  by_cases h : 2000 < l.length
  · rw [if_pos h]
    exact ev_if_pos (by omega) (ev_some rfl)
  · rw [if_neg h]
    refine ev_if_neg (by omega) (ev_eq (refRight_l0 l (by omega) l.length 0 (by omega)) ?_)
    rw [List.take_zero, List.drop_zero]
    rfl
/-- What a right list is. -/
theorem go_ok : ∀ (l : List S28) (seen : List Int), ledger_Right.go seen l = 0 → (∀ p ∈ l, (1 ≤ p.f0 ∧ p.f0 ≤ 1000000000 ∧ 0 ≤ p.f1 ∧ p.f1 ≤ 9999 ∧ 0 ≤ p.f2 ∧ p.f2 ≤ 9999 ∧ 1 ≤ p.f3 ∧ p.f3 ≤ 1099511627776) ∧ p.f1 ≠ p.f2)
  | [], _, _ => by simp
  | p :: ps, seen, h => by
    simp only [ledger_Right.go] at h
    by_cases hv : ledger_check.val p.f0 p.f1 p.f2 p.f3 = 0
    · rw [if_pos hv] at h
      by_cases hc : seen.contains p.f0 = true
      · rw [if_pos hc] at h; cases h
      rw [if_neg hc] at h
      intro q hq
      rcases List.mem_cons.1 hq with rfl | hq
      · rw [val_cases] at hv
        split at hv
        · cases hv
        · rename_i hr
          split at hv
          · cases hv
          · rename_i he
            exact ⟨by omega, he⟩
      · exact go_ok ps _ h q hq
    · rw [if_neg hv] at h
      exact absurd h hv
theorem right_ok {l : List S28} (h : rightv l = 0) : l.length ≤ 2000 ∧ (∀ p ∈ l, (1 ≤ p.f0 ∧ p.f0 ≤ 1000000000 ∧ 0 ≤ p.f1 ∧ p.f1 ≤ 9999 ∧ 0 ≤ p.f2 ∧ p.f2 ≤ 9999 ∧ 1 ≤ p.f3 ∧ p.f3 ≤ 1099511627776) ∧ p.f1 ≠ p.f2) := by
  unfold rightv at h
  split at h
  · cases h
  · exact ⟨by omega, go_ok l [] h⟩
end Go.Proofs.Ytjhmcepcealelaa.Plain
