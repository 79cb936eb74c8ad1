/- The plain law LedgerZero: behind Post all balances together are nought, and a posting counts once; any list of at most 200 postings and any posting. -/
import Derived.Test.YtjhmcepcealelaaPlainB
namespace Go.Proofs.Ytjhmcepcealelaa.Pure
open Go.RowKit Go.Proofs.YtjhmcepcealelaaW.PrintWords Go.Proofs.Ytjhmcepcealelaa.A Go.Proofs.Ytjhmcepcealelaa.HEv Go.Proofs.Ytjhmcepcealelaa.Plain
set_option linter.unusedVariables false
set_option linter.unusedSimpArgs false
def sums (x : List S28) : List Int → Int
  | [] => 0
  | a :: bs => bal a x + sums x bs
def ins (x : List S28) : List Int → Int
  | [] => 0
  | a :: bs => tin a x + ins x bs
def outs (x : List S28) : List Int → Int
  | [] => 0
  | a :: bs => tout a x + outs x bs
theorem sums_eq (x : List S28) : ∀ L, sums x L = ins x L - outs x L
  | [] => rfl
  | a :: bs => by simp only [sums, ins, outs, sums_eq x bs, bal]; omega
def total : List S28 → Int
  | [] => 0
  | p :: ps => p.f3 + total ps
theorem ins_nil : ∀ L, ins [] L = 0
  | [] => rfl
  | a :: bs => by simp [ins, tin, ins_nil bs]
theorem outs_nil : ∀ L, outs [] L = 0
  | [] => rfl
  | a :: bs => by simp [outs, tout, outs_nil bs]
theorem ins_cons_not (p : S28) (ps : List S28) : ∀ L : List Int, p.f2 ∉ L → ins (p :: ps) L = ins ps L
  | [], _ => rfl
  | a :: bs, h => by
    have h1 : ¬ p.f2 = a := fun e => h (by simp [e])
    have h2 := ins_cons_not p ps bs (fun hh => h (List.mem_cons_of_mem _ hh))
    simp only [ins, tin, if_neg h1, h2]
    omega
theorem ins_cons (p : S28) (ps : List S28) : ∀ L : List Int, L.Pairwise (· < ·) → p.f2 ∈ L → ins (p :: ps) L = p.f3 + ins ps L
  | a :: bs, hs, h => by
    obtain ⟨h1, h2⟩ := List.pairwise_cons.1 hs
    by_cases e : p.f2 = a
    · have h3 := ins_cons_not p ps bs (fun hh => by have := h1 _ hh; omega)
      simp only [ins, tin, if_pos e, h3]
      omega
    · have h4 : p.f2 ∈ bs := by rcases List.mem_cons.1 h with h | h; exact absurd h e; exact h
      have h3 := ins_cons p ps bs h2 h4
      simp only [ins, tin, if_neg e, h3]
      omega
theorem outs_cons_not (p : S28) (ps : List S28) : ∀ L : List Int, p.f1 ∉ L → outs (p :: ps) L = outs ps L
  | [], _ => rfl
  | a :: bs, h => by
    have h1 : ¬ p.f1 = a := fun e => h (by simp [e])
    have h2 := outs_cons_not p ps bs (fun hh => h (List.mem_cons_of_mem _ hh))
    simp only [outs, tout, if_neg h1, h2]
    omega
theorem outs_cons (p : S28) (ps : List S28) : ∀ L : List Int, L.Pairwise (· < ·) → p.f1 ∈ L → outs (p :: ps) L = p.f3 + outs ps L
  | a :: bs, hs, h => by
    obtain ⟨h1, h2⟩ := List.pairwise_cons.1 hs
    by_cases e : p.f1 = a
    · have h3 := outs_cons_not p ps bs (fun hh => by have := h1 _ hh; omega)
      simp only [outs, tout, if_pos e, h3]
      omega
    · have h4 : p.f1 ∈ bs := by rcases List.mem_cons.1 h with h | h; exact absurd h e; exact h
      have h3 := outs_cons p ps bs h2 h4
      simp only [outs, tout, if_neg e, h3]
      omega
theorem ins_total (L : List Int) (hs : L.Pairwise (· < ·)) : ∀ x : List S28, (∀ p ∈ x, p.f2 ∈ L) → ins x L = total x
  | [], _ => ins_nil L
  | p :: ps, h => by
    rw [ins_cons p ps L hs (h p (by simp)), ins_total L hs ps (fun q hq => h q (List.mem_cons_of_mem _ hq))]
    rfl
theorem outs_total (L : List Int) (hs : L.Pairwise (· < ·)) : ∀ x : List S28, (∀ p ∈ x, p.f1 ∈ L) → outs x L = total x
  | [], _ => outs_nil L
  | p :: ps, h => by
    rw [outs_cons p ps L hs (h p (by simp)), outs_total L hs ps (fun q hq => h q (List.mem_cons_of_mem _ hq))]
    rfl
theorem sums_zero (x : List S28) : sums x (ledger_Accounts.accs [] x) = 0 := by
  have hs := ledger_Accounts.accs_sorted x [] List.Pairwise.nil
  have h1 := ins_total _ hs x (fun p hp => (ledger_Accounts.mem_accs _ x []).2 (.inr ⟨p, hp, .inr rfl⟩))
  have h2 := outs_total _ hs x (fun p hp => (ledger_Accounts.mem_accs _ x []).2 (.inr ⟨p, hp, .inl rfl⟩))
  rw [sums_eq, h1, h2]
  omega
theorem zero_l0 (x : List S28) (hx : x.length ≤ 300) (ha : Amounts x) (L : List Int) (hL : L.length ≤ 1000) (h2 : 2 ≤ L.length) : ∀ (d i : Nat) (s : Int), i + d = L.length → -(329853488332800 * i) ≤ s → s ≤ 329853488332800 * i → s + sums x (L.drop i) = 0 →
    Ev (fun k => skiarealaw09_LedgerZero.l0 k x L s (i : Int)) true := by
  intro d
  induction d with
  | zero =>
    intro i s h _ _ hz
    rw [List.drop_eq_nil_of_le (by omega)] at hz
    refine Ev.step (fun _ => rfl) ?_
    simp only [skiarealaw09_LedgerZero.l0]
    refine ev_if_neg (by omega) (ev_if_pos (by simpa [sums] using hz) (ev_some ?_))
    simp only [decide_eq_true_eq]
    omega
  | succ d ih =>
    intro i s h hs0 hs1 hz
    have hi : i < L.length := by omega
    have hb := bal_bound L[i] x hx ha
    rw [List.drop_eq_getElem_cons hi] at hz
    simp only [sums] at hz
    refine Ev.step (fun _ => rfl) ?_
    simp only [skiarealaw09_LedgerZero.l0]
    rw [rdi_at L i hi]
    refine ev_if_pos (by omega) (ev_if_pos (by omega) (ev_bind (bal_ev L[i] x (by omega) ha) ?_))
    rw [HEv.wrap_small (x := s + bal L[i] x) (by omega) (by omega), wrap_next (by omega)]
    exact ih (i + 1) _ (by omega) (by omega) (by omega) (by omega)
theorem two_of {L : List Int} {a b : Int} (ha : a ∈ L) (hb : b ∈ L) (h : a ≠ b) : 2 ≤ L.length := by
  match L with
  | [] => simp at ha
  | [x] =>
    rw [List.mem_singleton] at ha hb
    exact absurd (ha.trans hb.symm) h
  | x :: y :: r => simp
theorem zero_j0 (x : List S28) (hx : x.length ≤ 300) (hr : rightv x = 0) (p : S28) (hp : p ∈ x) : Ev (fun k => skiarealaw09_LedgerZero.j0 k x false) true := by
  have h1 := right_ok hr
  have ha := (amounts_of hr).1
  have hl := accs_length x []
  simp only [List.length_nil] at hl
  refine Ev.step (fun _ => rfl) ?_
  simp only [skiarealaw09_LedgerZero.j0]
  refine ev_if_neg (by simp) (ev_bind_some (acc_eq x (by omega) (fun q hq => ?_)) ?_)
  · have := (h1.2 q hq).1
    exact ⟨in64_of (wf_i64.2 (by omega)), in64_of (wf_i64.2 (by omega))⟩
  · have h2 := two_of (L := ledger_Accounts.accs [] x) ((ledger_Accounts.mem_accs _ x []).2 (.inr ⟨p, hp, .inl rfl⟩)) ((ledger_Accounts.mem_accs _ x []).2 (.inr ⟨p, hp, .inr rfl⟩)) (h1.2 p hp).2
    exact zero_l0 x hx ha _ (by omega) h2 (ledger_Accounts.accs [] x).length 0 0 (by omega) (by omega) (by omega) (by rw [List.drop_zero, sums_zero]; rfl)
theorem LedgerZero : ∀ (l0 : List (S28)) (s1 : S28), ((∀ y ∈ l0, ok28 y) ∧ l0.length * 32 ≤ 140737488351232 ∧ l0.length ≤ 9223372036854775807) → (ok28 s1) → ∃ k, skiarealaw09_LedgerZero.f k l0 (s1.f0) (s1.f1) (s1.f2) (s1.f3) = some true := by
  intro l0 s1 _ _
  refine Ev.rounds (g := fun k => skiarealaw09_LedgerZero.f k l0 (s1.f0) (s1.f1) (s1.f2) (s1.f3)) ?_
  simp only [skiarealaw09_LedgerZero.f]
  refine ev_bind alive_ev (ev_if_pos rfl ?_)
  by_cases h : (l0.length : Int) > 200
  · exact ev_if_pos h (ev_some rfl)
  · refine ev_if_neg h (ev_bind (post_ev l0 (by omega) s1) ?_)
    by_cases h1 : (postv l0 s1).2 = 0
    · obtain ⟨hr, hrx, hpx, hx, hagain⟩ := postv_ok h1
      have hlen := postv_length l0 s1
      have hge : l0.length ≤ (postv l0 s1).1.length := by
        rcases hx with e | ⟨_, e⟩ <;> rw [e] <;> simp
      refine ev_if_pos h1 (ev_bind (post_ev _ (by omega) s1) ?_)
      rw [hagain]
      refine ev_if_pos rfl (ev_bind (same_refl _ (show (postv l0 s1).1.length ≤ 1000000 by omega)) (ev_if_pos rfl (ev_if_neg (by omega) ?_)))
      rw [HEv.wrap_small (x := (l0.length : Int) + 1) (by omega) (by omega), decide_eq_false (by omega)]
      exact zero_j0 _ (by omega) hrx s1 hpx
    · refine ev_if_neg h1 (ev_some ?_)
      rw [postv_no h1]
      rfl
end Go.Proofs.Ytjhmcepcealelaa.Pure
