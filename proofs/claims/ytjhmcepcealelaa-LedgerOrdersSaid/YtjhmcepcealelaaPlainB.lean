/- The ledger's plain laws, second part: sums, lists, accounts, and the posting of one more. -/
import Derived.Test.YtjhmcepcealelaaPlain
namespace Go.Proofs.Ytjhmcepcealelaa.Plain
open Go.RowKit Go.Proofs.YtjhmcepcealelaaW.PrintWords Go.Proofs.Ytjhmcepcealelaa.A Go.Proofs.Ytjhmcepcealelaa.HEv
set_option linter.unusedVariables false
set_option linter.unusedSimpArgs false

/-! ### sums -/
def tin (a : Int) : List S28 → Int
  | [] => 0
  | p :: ps => (if p.f2 = a then p.f3 else 0) + tin a ps
def tout (a : Int) : List S28 → Int
  | [] => 0
  | p :: ps => (if p.f1 = a then p.f3 else 0) + tout a ps
def Amounts (l : List S28) : Prop := ∀ p ∈ l, 1 ≤ p.f3 ∧ p.f3 ≤ 1099511627776
theorem tin_bound (a : Int) : ∀ l : List S28, Amounts l → 0 ≤ tin a l ∧ tin a l ≤ l.length * 1099511627776
  | [], _ => by simp [tin]
  | p :: ps, h => by
    have ih := tin_bound a ps (fun q hq => h q (List.mem_cons_of_mem _ hq))
    have hp := h p (by simp)
    simp only [tin, List.length_cons]
    split <;> constructor <;> omega
theorem tout_bound (a : Int) : ∀ l : List S28, Amounts l → 0 ≤ tout a l ∧ tout a l ≤ l.length * 1099511627776
  | [], _ => by simp [tout]
  | p :: ps, h => by
    have ih := tout_bound a ps (fun q hq => h q (List.mem_cons_of_mem _ hq))
    have hp := h p (by simp)
    simp only [tout, List.length_cons]
    split <;> constructor <;> omega
theorem amounts_of {l : List S28} (h : rightv l = 0) : Amounts l ∧ l.length ≤ 2000 := by
  have h1 := right_ok h
  exact ⟨fun p hp => by have := (h1.2 p hp).1; omega, h1.1⟩

theorem turn_l0 (a : Int) (l : List S28) (hl : l.length ≤ 4000) (ha : Amounts l) : ∀ (d i : Nat) (x y : Int), i + d = l.length → 0 ≤ x → x ≤ i * 1099511627776 → 0 ≤ y → y ≤ i * 1099511627776 →
    Ev (fun k => ledger_Turnover.l0 k a x y l (l.length : Int) (i : Int)) (x + tin a (l.drop i), y + tout a (l.drop i)) := by
  intro d
  induction d with
  | zero =>
    intro i x y h _ _ _ _
    refine Ev.step (fun _ => rfl) ?_
    simp only [ledger_Turnover.l0]
    refine ev_if_neg (by omega) (ev_some ?_)
    rw [List.drop_eq_nil_of_le (by omega)]
    simp [tin, tout]
  | succ d ih0 =>
    intro i x y h hx0 hx1 hy0 hy1
    have hi : i < l.length := by omega
    have hp := ha l[i] (List.getElem_mem hi)
    have ih := ih0 (i + 1)
    refine Ev.step (fun _ => rfl) ?_
    simp only [ledger_Turnover.l0]
    refine ev_if_pos (by omega) (ev_if_pos (by omega) (ev_if_pos (by omega) ?_))
    rw [rd_at l i hi, wrap_next (by omega), List.drop_eq_getElem_cons hi]
    rw [HEv.wrap_small (x := x + l[i].f3) (by omega) (by omega), HEv.wrap_small (x := y + l[i].f3) (by omega) (by omega)]
    by_cases h2 : l[i].f2 = a <;> by_cases h1 : l[i].f1 = a
    · refine ev_if_pos h2 (ev_if_pos h1 (ev_eq (ih _ _ (by omega) (by omega) (by omega) (by omega) (by omega)) ?_))
      simp only [tin, tout, if_pos h1, if_pos h2]
      congr 1 <;> omega
    · refine ev_if_pos h2 (ev_if_neg h1 (ev_eq (ih _ _ (by omega) (by omega) (by omega) (by omega) (by omega)) ?_))
      simp only [tin, tout, if_neg h1, if_pos h2]
      congr 1 <;> omega
    · refine ev_if_neg h2 (ev_if_pos h1 (ev_eq (ih _ _ (by omega) (by omega) (by omega) (by omega) (by omega)) ?_))
      simp only [tin, tout, if_pos h1, if_neg h2]
      congr 1 <;> omega
    · refine ev_if_neg h2 (ev_if_neg h1 (ev_eq (ih _ _ (by omega) (by omega) (by omega) (by omega) (by omega)) ?_))
      simp only [tin, tout, if_neg h1, if_neg h2]
      congr 1 <;> omega
theorem turn_ev (a : Int) (l : List S28) (hl : l.length ≤ 4000) (ha : Amounts l) : Ev (fun k => ledger_Turnover.f k l a) (tin a l, tout a l) := by
  unfold ledger_Turnover.f
  have h := turn_l0 a l hl ha l.length 0 0 0 (by omega) (by omega) (by omega) (by omega) (by omega)
  simpa using h
theorem refTurn_l0 (a : Int) (l : List S28) (hl : l.length ≤ 4000) (ha : Amounts l) : ∀ (d i : Nat) (x y : Int), i + d = l.length → 0 ≤ x → x ≤ i * 1099511627776 → 0 ≤ y → y ≤ i * 1099511627776 →
    Ev (fun k => skiarearef09_Turnover.l0 k l a x y (i : Int)) (x + tin a (l.drop i), y + tout a (l.drop i)) := by
  intro d
  induction d with
  | zero =>
    intro i x y h _ _ _ _
    refine Ev.step (fun _ => rfl) ?_
    simp only [skiarearef09_Turnover.l0]
    refine ev_if_neg (by omega) (ev_some ?_)
    rw [List.drop_eq_nil_of_le (by omega)]
    simp [tin, tout]
  | succ d ih0 =>
    intro i x y h hx0 hx1 hy0 hy1
    have hi : i < l.length := by omega
    have hp := ha l[i] (List.getElem_mem hi)
    have ih := ih0 (i + 1)
    refine Ev.step (fun _ => rfl) ?_
    simp only [skiarearef09_Turnover.l0]
    refine ev_if_pos (by omega) (ev_if_pos (by omega) ?_)
    rw [rd_at l i hi, wrap_next (by omega), List.drop_eq_getElem_cons hi]
    rw [HEv.wrap_small (x := x + l[i].f3) (by omega) (by omega), HEv.wrap_small (x := y + l[i].f3) (by omega) (by omega)]
    by_cases h2 : l[i].f2 = a <;> by_cases h1 : l[i].f1 = a
    · refine ev_if_pos h2 (ev_if_pos h1 (ev_eq (ih _ _ (by omega) (by omega) (by omega) (by omega) (by omega)) ?_))
      simp only [tin, tout, if_pos h1, if_pos h2]
      congr 1 <;> omega
    · refine ev_if_pos h2 (ev_if_neg h1 (ev_eq (ih _ _ (by omega) (by omega) (by omega) (by omega) (by omega)) ?_))
      simp only [tin, tout, if_neg h1, if_pos h2]
      congr 1 <;> omega
    · refine ev_if_neg h2 (ev_if_pos h1 (ev_eq (ih _ _ (by omega) (by omega) (by omega) (by omega) (by omega)) ?_))
      simp only [tin, tout, if_pos h1, if_neg h2]
      congr 1 <;> omega
    · refine ev_if_neg h2 (ev_if_neg h1 (ev_eq (ih _ _ (by omega) (by omega) (by omega) (by omega) (by omega)) ?_))
      simp only [tin, tout, if_neg h1, if_neg h2]
      congr 1 <;> omega
theorem refTurn_ev (a : Int) (l : List S28) (hl : l.length ≤ 4000) (ha : Amounts l) : Ev (fun k => skiarearef09_Turnover.f k l a) (tin a l, tout a l) := by
  unfold skiarearef09_Turnover.f
  have h := refTurn_l0 a l hl ha l.length 0 0 0 (by omega) (by omega) (by omega) (by omega) (by omega)
  simpa using h
def bal (a : Int) (l : List S28) : Int := tin a l - tout a l
theorem bal_ev (a : Int) (l : List S28) (hl : l.length ≤ 4000) (ha : Amounts l) : Ev (fun k => ledger_Balance.f k l a) (bal a l) := by
  unfold ledger_Balance.f
  have h1 := tin_bound a l ha
  have h2 := tout_bound a l ha
  refine ev_bind (turn_ev a l hl ha) (ev_some ?_)
  exact HEv.wrap_small (by simp only; omega) (by simp only; omega)
theorem refBal_ev (a : Int) (l : List S28) (hl : l.length ≤ 4000) (ha : Amounts l) : Ev (fun k => skiarearef09_Balance.f k l a) (bal a l) := by
  unfold skiarearef09_Balance.f
  have h1 := tin_bound a l ha
  have h2 := tout_bound a l ha
  refine ev_bind (refTurn_ev a l hl ha) (ev_some ?_)
  exact HEv.wrap_small (by simp only; omega) (by simp only; omega)
theorem tin_append (a : Int) : ∀ l m : List S28, tin a (l ++ m) = tin a l + tin a m
  | [], m => by simp [tin]
  | p :: ps, m => by simp only [List.cons_append, tin, tin_append a ps m]; omega
theorem tout_append (a : Int) : ∀ l m : List S28, tout a (l ++ m) = tout a l + tout a m
  | [], m => by simp [tout]
  | p :: ps, m => by simp only [List.cons_append, tout, tout_append a ps m]; omega
theorem tin_reverse (a : Int) : ∀ l : List S28, tin a l.reverse = tin a l
  | [] => rfl
  | p :: ps => by rw [List.reverse_cons, tin_append, tin_reverse a ps]; simp only [tin]; omega
theorem tout_reverse (a : Int) : ∀ l : List S28, tout a l.reverse = tout a l
  | [] => rfl
  | p :: ps => by rw [List.reverse_cons, tout_append, tout_reverse a ps]; simp only [tout]; omega

/-! ### the postings of an account -/
theorem keep_cons {f : S28 → Bool} {p : S28} {ps out : List S28} (h : f p = true) : (out ++ [(⟨p.f0, p.f1, p.f2, p.f3⟩ : S28)]) ++ ps.filter f = out ++ (p :: ps).filter f := by
  rw [List.filter_cons, if_pos h, List.append_assoc]
  rfl
theorem drop_cons {f : S28 → Bool} {p : S28} {ps out : List S28} (h : f p = false) : out ++ ps.filter f = out ++ (p :: ps).filter f := by
  rw [List.filter_cons, h]
  rfl
def ofs (a : Int) (l : List S28) : List S28 := l.filter fun p => decide (p.f1 = a) || decide (p.f2 = a)
theorem of_l0 (a : Int) (l : List S28) (hl : l.length ≤ 1000000) : ∀ (d i : Nat) (out : List S28), i + d = l.length → out.length ≤ i → Ev (fun k => ledger_Of.l0 k a out l (l.length : Int) (i : Int)) (out ++ ofs a (l.drop i))
  | 0, i, out, h, ho => by
    refine Ev.step (fun _ => rfl) ?_
    simp only [ledger_Of.l0]
    refine ev_if_neg (by omega) (ev_some ?_)
    rw [List.drop_eq_nil_of_le (by omega)]
    simp [ofs]
  | d + 1, i, out, h, ho => by
    have hi : i < l.length := by omega
    have ih := of_l0 a l hl d (i + 1)
    refine Ev.step (fun _ => rfl) ?_
    simp only [ledger_Of.l0]
    refine ev_if_pos (by omega) (ev_if_pos (by omega) (ev_if_pos (by omega) ?_))
    rw [rd_at l i hi, wrap_next (by omega), List.drop_eq_getElem_cons hi]
    by_cases h1 : l[i].f1 = a
    · refine ev_if_pos h1 (ev_if_pos (by omega) (ev_eq (ih _ (by omega) (by simp; omega)) (keep_cons (by simp [h1]))))
    · refine ev_if_neg h1 ?_
      by_cases h2 : l[i].f2 = a
      · refine ev_if_pos h2 (ev_if_pos (by omega) (ev_eq (ih _ (by omega) (by simp; omega)) (keep_cons (by simp [h2]))))
      · refine ev_if_neg h2 (ev_eq (ih _ (by omega) (by omega)) (drop_cons (by simp [h1, h2])))
theorem of_ev (a : Int) (l : List S28) (hl : l.length ≤ 1000000) : Ev (fun k => ledger_Of.f k l a) (ofs a l) := by
  unfold ledger_Of.f
  simpa using of_l0 a l hl l.length 0 [] (by omega) (by simp)
theorem refOf_l0 (a : Int) (l : List S28) (hl : l.length ≤ 1000000) : ∀ (d i : Nat) (out : List S28), i + d = l.length → out.length ≤ i → Ev (fun k => skiarearef09_Of.l0 k l a out (i : Int)) (out ++ ofs a (l.drop i))
  | 0, i, out, h, ho => by
    refine Ev.step (fun _ => rfl) ?_
    simp only [skiarearef09_Of.l0]
    refine ev_if_neg (by omega) (ev_some ?_)
    rw [List.drop_eq_nil_of_le (by omega)]
    simp [ofs]
  | d + 1, i, out, h, ho => by
    have hi : i < l.length := by omega
    have ih := refOf_l0 a l hl d (i + 1)
    refine Ev.step (fun _ => rfl) ?_
    simp only [skiarearef09_Of.l0]
    refine ev_if_pos (by omega) (ev_if_pos (by omega) ?_)
    rw [rd_at l i hi, wrap_next (by omega), List.drop_eq_getElem_cons hi]
    by_cases h1 : l[i].f1 = a
    · refine ev_if_pos h1 (ev_if_pos (by omega) (ev_eq (ih _ (by omega) (by simp; omega)) (keep_cons (by simp [h1]))))
    · refine ev_if_neg h1 ?_
      by_cases h2 : l[i].f2 = a
      · refine ev_if_pos h2 (ev_if_pos (by omega) (ev_eq (ih _ (by omega) (by simp; omega)) (keep_cons (by simp [h2]))))
      · refine ev_if_neg h2 (ev_eq (ih _ (by omega) (by omega)) (drop_cons (by simp [h1, h2])))
theorem refOf_ev (a : Int) (l : List S28) (hl : l.length ≤ 1000000) : Ev (fun k => skiarearef09_Of.f k l a) (ofs a l) := by
  unfold skiarearef09_Of.f
  simpa using refOf_l0 a l hl l.length 0 [] (by omega) (by simp)
theorem ofs_le (a : Int) (l : List S28) : (ofs a l).length ≤ l.length := List.length_filter_le _ _

/-! ### the accounts -/
theorem ins_length (n : Int) : ∀ l : List Int, (ledger_Accounts.ins n l).length ≤ l.length + 1
  | [] => by simp [ledger_Accounts.ins]
  | x :: xs => by
    unfold ledger_Accounts.ins
    split
    · simp
    · split
      · simp
      · have := ins_length n xs
        simp only [List.length_cons]
        omega
theorem accs_length : ∀ (l : List S28) (acc : List Int), (ledger_Accounts.accs acc l).length ≤ acc.length + 2 * l.length
  | [], acc => by simp [ledger_Accounts.accs]
  | p :: ps, acc => by
    have h1 := ins_length p.f1 acc
    have h2 := ins_length p.f2 (ledger_Accounts.ins p.f1 acc)
    have h3 := accs_length ps (ledger_Accounts.ins p.f2 (ledger_Accounts.ins p.f1 acc))
    have h4 : ledger_Accounts.accs acc (p :: ps) = ledger_Accounts.accs (ledger_Accounts.ins p.f2 (ledger_Accounts.ins p.f1 acc)) ps := rfl
    rw [h4]
    simp only [List.length_cons]
    omega
theorem refIns_done (n : Int) (l : List Int) (hl : l.length ≤ 10000000) : ∀ (d i : Nat) (out : List Int), i + d = l.length → out.length ≤ i + 1 → Ev (fun k => skiarearef09_insert.l0 k l n out true (i : Int)) (out ++ l.drop i)
  | 0, i, out, h, ho => by
    refine Ev.step (fun _ => rfl) ?_
    simp only [skiarearef09_insert.l0]
    refine ev_if_neg (by omega) (ev_if_pos trivial (ev_some ?_))
    rw [List.drop_eq_nil_of_le (by omega)]
    simp
  | d + 1, i, out, h, ho => by
    have hi : i < l.length := by omega
    have ih := refIns_done n l hl d (i + 1)
    refine Ev.step (fun _ => rfl) ?_
    simp only [skiarearef09_insert.l0]
    refine ev_if_pos (by omega) (ev_if_pos trivial ?_)
    refine Ev.step (fun _ => rfl) ?_
    simp only [skiarearef09_insert.j1]
    refine ev_if_neg (by simp) (ev_if_pos (by omega) (ev_if_pos (by omega) (ev_if_pos (by omega) ?_)))
    rw [rdi_at l i hi, wrap_next (by omega)]
    refine ev_eq (ih _ (by omega) (by simp; omega)) ?_
    rw [List.drop_eq_getElem_cons hi]
    simp
theorem refIns_l0 (n : Int) (l : List Int) (hl : l.length ≤ 10000000) : ∀ (d i : Nat) (out : List Int), i + d = l.length → out.length ≤ i → Ev (fun k => skiarearef09_insert.l0 k l n out false (i : Int)) (out ++ ledger_Accounts.ins n (l.drop i))
  | 0, i, out, h, ho => by
    refine Ev.step (fun _ => rfl) ?_
    simp only [skiarearef09_insert.l0]
    refine ev_if_neg (by omega) (ev_if_neg (by simp) (ev_if_pos (by omega) (ev_some ?_)))
    rw [List.drop_eq_nil_of_le (by omega)]
    rfl
  | d + 1, i, out, h, ho => by
    have hi : i < l.length := by omega
    have ih := refIns_l0 n l hl d (i + 1)
    have ihd := refIns_done n l hl d (i + 1)
    refine Ev.step (fun _ => rfl) ?_
    simp only [skiarearef09_insert.l0]
    refine ev_if_pos (by omega) (ev_if_neg (by simp) (ev_if_pos (by omega) ?_))
    refine Ev.step (fun _ => rfl) ?_
    simp only [skiarearef09_insert.j1]
    rw [rdi_at l i hi, wrap_next (by omega), List.drop_eq_getElem_cons hi]
    by_cases h1 : n ≤ l[i]
    · refine ev_if_pos (decide_eq_true h1) (ev_if_pos (by omega) (ev_if_pos (by omega) ?_))
      by_cases h2 : n < l[i]
      · refine ev_if_pos h2 (ev_if_pos (by omega) (ev_bind_some rfl (ev_if_pos (by simp; omega) (ev_eq (ihd _ (by omega) (by simp; omega)) ?_))))
        simp [ledger_Accounts.ins, h2]
      · refine ev_if_neg h2 (ev_if_pos (by omega) (ev_eq (ihd _ (by omega) (by simp; omega)) ?_))
        have h3 : n = l[i] := by omega
        simp [ledger_Accounts.ins, h3]
    · refine ev_if_neg (by simpa using h1) (ev_if_pos (by omega) (ev_if_pos (by omega) (ev_if_pos (by omega) (ev_eq (ih _ (by omega) (by simp; omega)) ?_))))
      have h2 : ¬ n < l[i] := by omega
      have h3 : ¬ n = l[i] := by omega
      simp [ledger_Accounts.ins, h2, h3]
theorem refIns_ev (n : Int) (l : List Int) (hl : l.length ≤ 10000000) : Ev (fun k => skiarearef09_insert.f k l n) (ledger_Accounts.ins n l) := by
  unfold skiarearef09_insert.f
  simpa using refIns_l0 n l hl l.length 0 [] (by omega) (by simp)
theorem refAcc_l0 (l : List S28) (hl : l.length ≤ 1000000) : ∀ (d i : Nat) (out : List Int), i + d = l.length → out.length ≤ 2 * i → Ev (fun k => skiarearef09_Accounts.l0 k l out (i : Int)) (ledger_Accounts.accs out (l.drop i))
  | 0, i, out, h, ho => by
    refine Ev.step (fun _ => rfl) ?_
    simp only [skiarearef09_Accounts.l0]
    refine ev_if_neg (by omega) (ev_some ?_)
    rw [List.drop_eq_nil_of_le (by omega)]
    rfl
  | d + 1, i, out, h, ho => by
    have hi : i < l.length := by omega
    have ih := refAcc_l0 l hl d (i + 1)
    have h1 := ins_length l[i].f1 out
    have h2 := ins_length l[i].f2 (ledger_Accounts.ins l[i].f1 out)
    refine Ev.step (fun _ => rfl) ?_
    simp only [skiarearef09_Accounts.l0]
    rw [rd_at l i hi, wrap_next (by omega), List.drop_eq_getElem_cons hi]
    refine ev_if_pos (by omega) (ev_if_pos (by omega) (ev_bind (refIns_ev _ _ (by omega)) (ev_bind (refIns_ev _ _ (by omega)) ?_)))
    exact ih _ (by omega) (by omega)
theorem refAcc_ev (l : List S28) (hl : l.length ≤ 1000000) : Ev (fun k => skiarearef09_Accounts.f k l) (ledger_Accounts.accs [] l) := by
  unfold skiarearef09_Accounts.f
  simpa using refAcc_l0 l hl l.length 0 [] (by omega) (by simp)
theorem acc_eq (l : List S28) (hl : l.length ≤ 1000000) (hw : ∀ p ∈ l, ledger_Accounts.in64 p.f1 = true ∧ ledger_Accounts.in64 p.f2 = true) : ledger_Accounts.f l = some (ledger_Accounts.accs [] l) := by
  unfold ledger_Accounts.f
  rw [if_pos ⟨List.all_eq_true.2 (fun p hp => by rw [Bool.and_eq_true]; exact hw p hp), hl⟩]
theorem in64_of {n : Int} (h : (Lit.int .i64 n).wf = true) : ledger_Accounts.in64 n = true := by
  have h1 := wf_i64.1 h
  have h2 : decide (-9223372036854775808 ≤ n) = true := decide_eq_true h1.1
  have h3 : decide (n ≤ 9223372036854775807) = true := decide_eq_true h1.2
  exact Bool.and_eq_true_iff.2 ⟨h2, h3⟩

/-! ### Post -/
theorem eqS_iff (a b c e : Int) (q : S28) : ((a == q.f0 && (b == q.f1 && (c == q.f2 && (e == q.f3)))) = true) ↔ q = ⟨a, b, c, e⟩ := by
  cases q
  simp only [Bool.and_eq_true, beq_iff_eq, S28.mk.injEq]
  constructor <;> (rintro ⟨h1, h2, h3, h4⟩; exact ⟨h1.symm, h2.symm, h3.symm, h4.symm⟩)
theorem eqS_iff' (a b c e : Int) (q : S28) : ((q.f0 == a && (q.f1 == b && (q.f2 == c && (q.f3 == e)))) = true) ↔ q = ⟨a, b, c, e⟩ := by
  cases q
  simp
theorem index_l0 (l : List S28) (hl : l.length ≤ 1000000) (a b c e : Int) : ∀ (d i : Nat), i + d = l.length → ∃ r : Int, Ev (fun k => api_Posting_32.l0 k l (l.length : Int) (i : Int) a b c e) r ∧ (0 ≤ r ↔ (⟨a, b, c, e⟩ : S28) ∈ l.drop i)
  | 0, i, h => by
    refine ⟨-1, ?_, ?_⟩
    · refine Ev.step (fun _ => rfl) ?_
      simp only [api_Posting_32.l0]
      exact ev_if_neg (by omega) (ev_some rfl)
    · rw [List.drop_eq_nil_of_le (by omega)]
      simp
  | d + 1, i, h => by
    have hi : i < l.length := by omega
    obtain ⟨r, hr, hm⟩ := index_l0 l hl a b c e d (i + 1) (by omega)
    by_cases h1 : l[i] = ⟨a, b, c, e⟩
    · refine ⟨i, ?_, ?_⟩
      · refine Ev.step (fun _ => rfl) ?_
        simp only [api_Posting_32.l0]
        rw [rd_at l i hi]
        exact ev_if_pos (by omega) (ev_if_pos (by omega) (ev_if_pos (by omega) (ev_if_pos ((eqS_iff a b c e l[i]).2 h1) (ev_some rfl))))
      · rw [List.drop_eq_getElem_cons hi, h1]
        simp
    · refine ⟨r, ?_, ?_⟩
      · refine Ev.step (fun _ => rfl) ?_
        simp only [api_Posting_32.l0]
        rw [rd_at l i hi, wrap_next (by omega)]
        exact ev_if_pos (by omega) (ev_if_pos (by omega) (ev_if_pos (by omega) (ev_if_neg (fun hh => h1 ((eqS_iff a b c e l[i]).1 hh)) hr)))
      · rw [List.drop_eq_getElem_cons hi, List.mem_cons, hm]
        constructor
        · exact .inr
        · rintro (h2 | h2)
          · exact absurd h2.symm h1
          · exact h2
theorem contains_ev (l : List S28) (hl : l.length ≤ 1000000) (a b c e : Int) : ∃ r : Bool, Ev (fun k => api_Posting_28.f k l a b c e) r ∧ (r = true ↔ (⟨a, b, c, e⟩ : S28) ∈ l) := by
  obtain ⟨r, hr, hm⟩ := index_l0 l hl a b c e l.length 0 (by omega)
  refine ⟨decide (r ≥ 0), ?_, ?_⟩
  · unfold api_Posting_28.f api_Posting_32.f
    exact ev_bind hr (ev_some rfl)
  · rw [decide_eq_true_eq]
    simpa using hm
open Classical in
noncomputable def postv (l : List S28) (p : S28) : List S28 × Int := if rightv l = 0 then (if p ∈ l then (l, 0) else if rightv (l ++ [p]) = 0 then (l ++ [p], 0) else ([], rightv (l ++ [p]))) else ([], rightv l)
theorem clone_eq (l : List S28) (hl : l.length ≤ 1000000) : api_Posting_27.f l = some l := by
  unfold api_Posting_27.f
  rw [if_pos (by omega)]
theorem post_ev (l : List S28) (hl : l.length ≤ 1000000) (p : S28) : Ev (fun k => ledger_Post.f k l p.f0 p.f1 p.f2 p.f3) (postv l p) := by
  unfold ledger_Post.f postv
  refine ev_bind_some (ledgerRight_eq l) ?_
  by_cases h : rightv l = 0
  · rw [if_pos h]
    refine ev_if_pos h (ev_bind_some (clone_eq l hl) ?_)
    obtain ⟨r, hr, hm⟩ := contains_ev l hl p.f0 p.f1 p.f2 p.f3
    refine ev_bind hr ?_
    by_cases h2 : p ∈ l
    · rw [if_pos h2]
      exact ev_if_pos (hm.2 h2) (ev_some rfl)
    · rw [if_neg h2]
      refine ev_if_neg (fun hh => h2 (hm.1 hh)) (ev_if_pos (by omega) (ev_bind_some rfl (ev_bind_some (ledgerRight_eq _) ?_)))
      by_cases h3 : rightv (l ++ [p]) = 0
      · exact ev_eq (ev_if_pos h3 (ev_some rfl)) (if_pos h3).symm
      · exact ev_eq (ev_if_neg h3 (ev_some rfl)) (if_neg h3).symm
  · rw [if_neg h]
    exact ev_if_neg h (ev_some rfl)
theorem refPost_l0 (l : List S28) (hl : l.length ≤ 1000000) (p : S28) : ∀ (d i : Nat), i + d = l.length → (p ∉ l.take i) → Ev (fun k => skiarearef09_Post.l0 k l l (i : Int) p.f0 p.f1 p.f2 p.f3) (open Classical in if p ∈ l then (l, 0) else if rightv (l ++ [p]) = 0 then (l ++ [p], 0) else ([], rightv (l ++ [p])))
  | 0, i, h, hn => by
    rw [List.take_of_length_le (by omega)] at hn
    rw [if_neg hn]
    refine Ev.step (fun _ => rfl) ?_
    simp only [skiarearef09_Post.l0]
    refine ev_if_neg (by omega) (ev_if_pos (by omega) (ev_bind_some rfl (ev_bind (refRight_ev _) ?_)))
    by_cases h3 : rightv (l ++ [p]) = 0
    · exact ev_eq (ev_if_pos h3 (ev_some rfl)) (if_pos h3).symm
    · exact ev_eq (ev_if_neg h3 (ev_some rfl)) (if_neg h3).symm
  | d + 1, i, h, hn => by
    have hi : i < l.length := by omega
    refine Ev.step (fun _ => rfl) ?_
    simp only [skiarearef09_Post.l0]
    rw [rd_at l i hi, wrap_next (by omega)]
    refine ev_if_pos (by omega) (ev_if_pos (by omega) ?_)
    by_cases h1 : l[i] = p
    · rw [if_pos (h1 ▸ List.getElem_mem hi)]
      exact ev_if_pos ((eqS_iff' _ _ _ _ _).2 h1) (ev_some rfl)
    · refine ev_if_neg (fun hh => h1 ((eqS_iff' _ _ _ _ _).1 hh)) (refPost_l0 l hl p d (i + 1) (by omega) ?_)
      rw [List.take_succ_eq_append_getElem hi, List.mem_append]
      rintro (h2 | h2)
      · exact hn h2
      · exact h1 (List.mem_singleton.1 h2).symm
theorem refPost_ev (l : List S28) (hl : l.length ≤ 1000000) (p : S28) : Ev (fun k => skiarearef09_Post.f k l p.f0 p.f1 p.f2 p.f3) (postv l p) := by
  unfold skiarearef09_Post.f postv
  refine ev_bind (refRight_ev l) ?_
  by_cases h : rightv l = 0
  · rw [if_pos h]
    refine ev_if_pos h (ev_if_pos (by simp; omega) ?_)
    rw [List.nil_append]
    exact refPost_l0 l hl p l.length 0 (by omega) (by simp)
  · rw [if_neg h]
    exact ev_if_neg h (ev_some rfl)
theorem postv_length (l : List S28) (p : S28) : (postv l p).1.length ≤ l.length + 1 := by
  unfold postv
  split
  · split
    · simp
    · split <;> simp
  · simp
/-- What Post gives where it gives no error. -/
theorem postv_ok {l : List S28} {p : S28} (h : (postv l p).2 = 0) : rightv l = 0 ∧ rightv (postv l p).1 = 0 ∧ p ∈ (postv l p).1 ∧ ((postv l p).1 = l ∨ (p ∉ l ∧ (postv l p).1 = l ++ [p])) ∧ postv (postv l p).1 p = ((postv l p).1, 0) := by
  by_cases h1 : rightv l = 0
  · by_cases h2 : p ∈ l
    · have e : postv l p = (l, 0) := by unfold postv; rw [if_pos h1, if_pos h2]
      rw [e]
      exact ⟨h1, h1, h2, .inl rfl, e⟩
    · by_cases h3 : rightv (l ++ [p]) = 0
      · have e : postv l p = (l ++ [p], 0) := by unfold postv; rw [if_pos h1, if_neg h2, if_pos h3]
        rw [e]
        refine ⟨h1, h3, by simp, .inr ⟨h2, rfl⟩, ?_⟩
        unfold postv
        rw [if_pos h3, if_pos (by simp)]
      · have e : postv l p = ([], rightv (l ++ [p])) := by unfold postv; rw [if_pos h1, if_neg h2, if_neg h3]
        rw [e] at h
        exact absurd h h3
  · have e : postv l p = ([], rightv l) := by unfold postv; rw [if_neg h1]
    rw [e] at h
    exact absurd h h1
theorem postv_no {l : List S28} {p : S28} (h : (postv l p).2 ≠ 0) : (postv l p).1 = [] := by
  by_cases h1 : rightv l = 0
  · by_cases h2 : p ∈ l
    · have e : postv l p = (l, 0) := by unfold postv; rw [if_pos h1, if_pos h2]
      rw [e] at h
      exact absurd rfl h
    · by_cases h3 : rightv (l ++ [p]) = 0
      · have e : postv l p = (l ++ [p], 0) := by unfold postv; rw [if_pos h1, if_neg h2, if_pos h3]
        rw [e] at h
        exact absurd rfl h
      · unfold postv
        rw [if_pos h1, if_neg h2, if_neg h3]
  · unfold postv
    rw [if_neg h1]
theorem bal_bound (a : Int) (x : List S28) (hx : x.length ≤ 300) (ha : Amounts x) : -(329853488332800) ≤ bal a x ∧ bal a x ≤ 329853488332800 := by
  have h1 := tin_bound a x ha
  have h2 := tout_bound a x ha
  unfold bal
  omega
end Go.Proofs.Ytjhmcepcealelaa.Plain
