/- The plain law ClosureTargets. -/
import Derived.Test.YtnnnjpkmdjkdjaaA0
import Derived.Test.YtnnnjpkmdjkdjaaA12
import Derived.Test.YtnnnjpkmdjkdjaaA18
import Derived.Test.YtnnnjpkmdjkdjaaA20
import Derived.Test.YtnnnjpkmdjkdjaaA21
import Derived.Test.YtnnnjpkmdjkdjaaA22
import Derived.Test.YtnnnjpkmdjkdjaaA23
import Derived.Test.YtnnnjpkmdjkdjaaA27
import Derived.Test.YtnnnjpkmdjkdjaaPlainMap
namespace Go.Proofs.Ytnnnjpkmdjkdjaa.Pure
open Go.RowKit Go.Proofs.YtnnnjpkmdjkdjaaW.PrintWords Go.Proofs.Ytnnnjpkmdjkdjaa.A Go.Proofs.Ytnnnjpkmdjkdjaa.HEv Go.Proofs.Ytnnnjpkmdjkdjaa.Plain
set_option linter.unusedVariables false
set_option linter.unusedSimpArgs false

/-- An answer at all; and the answer 0 tells P. -/
def TotP (P : Prop) (g : Nat → Option Int) : Prop := ∃ v, Ev g v ∧ (v = 0 → P)
section
variable {β : Type} {P Q : Prop}
theorem tp_some (a : Int) (h : a = 0 → P) : TotP P (fun _ => some a) := ⟨a, ev_some rfl, h⟩
theorem tp_ite {c : Prop} [Decidable c] {g f : Nat → Option Int} (h1 : c → TotP P g) (h2 : ¬ c → TotP P f) : TotP P (fun n => if c then g n else f n) := by
  by_cases h : c
  · obtain ⟨v, hv, hp⟩ := h1 h
    exact ⟨v, ev_if_pos h hv, hp⟩
  · obtain ⟨v, hv, hp⟩ := h2 h
    exact ⟨v, ev_if_neg h hv, hp⟩
theorem tp_bind {g : Nat → Option β} {f : Nat → β → Option Int} (h : Tot g) (k : ∀ a, TotP P (fun n => f n a)) : TotP P (fun n => (g n).bind (f n)) := by
  obtain ⟨a, ha⟩ := h
  obtain ⟨v, hv, hp⟩ := k a
  exact ⟨v, ev_bind ha hv, hp⟩
theorem tp_bindP {g : Nat → Option Int} {f : Nat → Int → Option Int} (h : TotP Q g) (k : ∀ a, (a = 0 → Q) → TotP P (fun n => f n a)) : TotP P (fun n => (g n).bind (f n)) := by
  obtain ⟨a, ha, hq⟩ := h
  obtain ⟨v, hv, hp⟩ := k a hq
  exact ⟨v, ev_bind ha hv, hp⟩
theorem tp_bind_some {o : Option β} {f : Nat → β → Option Int} {a : β} (h : o = some a) (k : TotP P (fun n => f n a)) : TotP P (fun n => o.bind (f n)) := by
  obtain ⟨v, hv, hp⟩ := k
  exact ⟨v, ev_bind_some h hv, hp⟩
theorem tp_step {f g : Nat → Option Int} (h : ∀ n, f (n + 1) = g n) (k : TotP P g) : TotP P f := by
  obtain ⟨v, hv, hp⟩ := k
  exact ⟨v, Ev.step h hv, hp⟩
theorem tp_mono {g : Nat → Option Int} (h : TotP P g) (hq : P → Q) : TotP Q g := by
  obtain ⟨v, hv, hp⟩ := h
  exact ⟨v, hv, fun h0 => hq (hp h0)⟩
end
def Upto (c : List S56) (i : Nat) : Prop := ∀ j, i ≤ j → 1 ≤ j → j < c.length → (rd_T56 c ((j : Int) - 1)).f0 < (rd_T56 c (j : Int)).f0
theorem upto_next {c : List S56} {i : Nat} (h : 1 ≤ i → (rd_T56 c ((i : Int) - 1)).f0 < (rd_T56 c (i : Int)).f0) (hn : Upto c (i + 1)) : Upto c i := by
  intro j hij h1 hj
  rcases Nat.lt_or_ge i j with h2 | h2
  · exact hn j (by omega) h1 hj
  · obtain rfl : j = i := by omega
    exact h h1
theorem runsP_j2 (a b c e) (ha : (a : List S59).length ≤ 1000000) (i : Nat) (s : Bool) (x0 x1 x2 x3 x4 x5 x6 : Int) (hs : s = false → 1 ≤ i → (rd_T56 c ((i : Int) - 1)).f0 < (rd_T56 c (i : Int)).f0) (hn : TotP (Upto c (i + 1)) (fun k => skiarearef10_runs.l0 k (wrap64 ((i : Int) + 1)) a b c e)) : TotP (Upto c i) (fun k => skiarearef10_runs.j2 k (i : Int) s a b c e x0 x1 x2 x3 x4 x5 x6) := by
  refine tp_step (fun _ => rfl) ?_
  simp only [skiarearef10_runs.j2]
  exact tp_ite (fun _ => tp_some _ (fun h => absurd h (by decide))) (fun h => tp_bind (rises_tot a b c e ha _ _) (fun t => tp_ite (fun _ => tp_mono hn (upto_next (hs (Bool.eq_false_iff.2 h)))) (fun h0 => tp_some _ (fun h => absurd h h0))))
theorem runsP_j1 (a b c e) (ha : (a : List S59).length ≤ 1000000) (hb : (c : List S56).length ≤ 1000000) (i : Nat) (hi : i < c.length) (s : Bool) (x0 x1 x2 x3 x4 x5 x6 : Int) (hx : x0 = (rd_T56 c (i : Int)).f0) (hn : TotP (Upto c (i + 1)) (fun k => skiarearef10_runs.l0 k (wrap64 ((i : Int) + 1)) a b c e)) : TotP (Upto c i) (fun k => skiarearef10_runs.j1 k (i : Int) s a b c e x0 x1 x2 x3 x4 x5 x6) := by
  refine tp_step (fun _ => rfl) ?_
  simp only [skiarearef10_runs.j1]
  rw [wrap_pred (by omega)]
  refine tp_ite (fun _ => tp_some _ (fun h => absurd h (by decide))) (fun hs => tp_ite (fun _ => tp_ite (fun _ => tp_ite (fun _ => runsP_j2 a b c e ha i _ _ _ _ _ _ _ _ (fun h1 h2 => ?_) hn) (fun h => absurd h (by omega))) (fun h => absurd h (by omega))) (fun h0 => runsP_j2 a b c e ha i _ _ _ _ _ _ _ _ (fun _ h1 => absurd h1 (by omega)) hn))
  have := of_decide_eq_false h1
  omega
theorem runsP_l0 (a b c e) (ha : (a : List S59).length ≤ 1000000) (hb : (c : List S56).length ≤ 1000000) : ∀ (d i : Nat), i + d = c.length → TotP (Upto c i) (fun k => skiarearef10_runs.l0 k (i : Int) a b c e)
  | 0, i, h => by
    refine tp_step (fun _ => rfl) ?_
    simp only [skiarearef10_runs.l0]
    exact tp_ite (fun h => absurd h (by omega)) (fun _ => tp_some _ (fun _ j h1 h2 h3 => absurd h3 (by omega)))
  | d + 1, i, h => by
    refine tp_step (fun _ => rfl) ?_
    simp only [skiarearef10_runs.l0]
    have hn : TotP (Upto c (i + 1)) (fun k => skiarearef10_runs.l0 k (wrap64 ((i : Int) + 1)) a b c e) := by rw [wrap_next (by omega)]; exact runsP_l0 a b c e ha hb d (i + 1) (by omega)
    have hj : ∀ s x1 x2 x3 x4 x5 x6, TotP (Upto c i) (fun k => skiarearef10_runs.j1 k (i : Int) s a b c e (rd_T56 c (i : Int)).f0 x1 x2 x3 x4 x5 x6) := fun s x1 x2 x3 x4 x5 x6 => runsP_j1 a b c e ha hb i (by omega) s _ x1 x2 x3 x4 x5 x6 rfl hn
    exact tp_ite (fun _ => tp_ite (fun _ => tp_bind_some (in_eq _ _ _) (tp_ite (fun _ => tp_bind_some (in_eq _ _ _) (tp_ite (fun _ => tp_bind_some (in_eq _ _ _) (tp_ite (fun _ => tp_bind_some (in_eq _ _ _) (tp_ite (fun _ => tp_bind_some (in_eq _ _ _) (hj _ _ _ _ _ _ _)) (fun _ => hj _ _ _ _ _ _ _))) (fun _ => hj _ _ _ _ _ _ _))) (fun _ => hj _ _ _ _ _ _ _))) (fun _ => hj _ _ _ _ _ _ _))) (fun h => absurd h (by omega))) (fun h => absurd h (by omega))
theorem mapRightP (a : List S59) (b : List S76) (c : List S56) (e : List Int) : TotP (c.length ≤ 64 ∧ Upto c 0) (fun k => skiarearef10_Right.f k a b c e) := by
  have ht : TotP (c.length ≤ 64 ∧ Upto c 0) (fun k => skiarearef10_Right.j0 k true a b c e) := by
    refine tp_step (fun _ => rfl) ?_
    simp only [skiarearef10_Right.j0]
    exact tp_ite (fun _ => tp_some _ (fun h => absurd h (by decide))) (fun h => absurd trivial h)
  unfold skiarearef10_Right.f
  refine tp_ite (fun _ => ht) (fun h1 => tp_ite (fun _ => ht) (fun h2 => tp_ite (fun _ => ht) (fun h3 => ?_)))
  by_cases h4 : (e.length : Int) > 64
  · rw [decide_eq_true h4]; exact ht
  · refine tp_step (fun _ => rfl) ?_
    simp only [skiarearef10_Right.j0]
    refine tp_ite (fun _ => tp_some _ (fun h => absurd h (by decide))) (fun _ => tp_bind ?_ (fun _ => tp_ite (fun _ => tp_bind ?_ (fun _ => tp_ite (fun _ => tp_bindP (Q := Upto c 0) ?_ (fun v hq => tp_ite (fun h0 => tp_bind ?_ (fun _ => tp_some _ (fun _ => ⟨by omega, hq h0⟩))) (fun h0 => tp_some _ (fun h => absurd h h0)))) (fun h0 => tp_some _ (fun h => absurd h h0)))) (fun h0 => tp_some _ (fun h => absurd h h0))))
    · unfold skiarearef10_nodes.f; exact nodes_l0 a (by omega) a.length 0 (by omega)
    · unfold skiarearef10_lifts.f; exact lifts_l0 a b c e (by omega) (by omega) b.length 0 (by omega)
    · unfold skiarearef10_runs.f; exact runsP_l0 a b c e (by omega) (by omega) c.length 0 (by omega)
    · unfold skiarearef10_bases.f
      exact tot_ite (fun _ => tot_some _) (fun h => bases_l0 a b c e (by omega) (by omega) (by omega) e.length 0 (by omega))
theorem upto_lt {c : List S56} (h : Upto c 0) : ∀ (d i : Nat), i + d + 1 < c.length → (rd_T56 c (i : Int)).f0 < (rd_T56 c ((i + d + 1 : Nat) : Int)).f0
  | 0, i, hi => by
    have := h (i + 1) (by omega) (by omega) (by omega)
    rw [show (((i + 1 : Nat) : Int) - 1) = (i : Int) by omega] at this
    exact this
  | d + 1, i, hi => by
    have h1 := upto_lt h d i (by omega)
    have h2 := h (i + d + 2) (by omega) (by omega) (by omega)
    rw [show (((i + d + 2 : Nat) : Int) - 1) = ((i + d + 1 : Nat) : Int) by omega] at h2
    exact Int.lt_trans h1 h2
/-- The first run with a run's number is that run itself. -/
theorem run_idx {c : List S56} (h : Upto c 0) (n : Nat) (hn : n < c.length) : ∀ (d i : Nat), i + d = n → terrain_Run.idx (terrain_Run.pr (rd_T56 c (n : Int)).f0) i (c.drop i) = (n : Int)
  | 0, i, hi => by
    obtain rfl : i = n := by omega
    rw [List.drop_eq_getElem_cons hn]
    have hr : rd_T56 c (i : Int) = c[i] := by simp [rd_T56, hn]
    have : terrain_Run.pr (rd_T56 c (i : Int)).f0 c[i] = true := by rw [hr]; simp [terrain_Run.pr]
    simp only [terrain_Run.idx]
    rw [if_pos this]
  | d + 1, i, hi => by
    have hil : i < c.length := by omega
    rw [List.drop_eq_getElem_cons hil]
    have hr : rd_T56 c (i : Int) = c[i] := by simp [rd_T56, hil]
    have hlt := upto_lt h d i (by omega)
    rw [show (i + d + 1 : Nat) = n by omega, hr] at hlt
    have : ¬ terrain_Run.pr (rd_T56 c (n : Int)).f0 c[i] = true := by simp [terrain_Run.pr]; omega
    simp only [terrain_Run.idx]
    rw [if_neg this]
    exact run_idx h n hn d (i + 1) (by omega)
theorem runv_self {c : List S56} (h : Upto c 0) (n : Nat) (hn : n < c.length) : (runv c (rd_T56 c (n : Int)).f0).2.2.2.2.2.2.2 = true ∧ (runv c (rd_T56 c (n : Int)).f0).2.2.2.2.2.1 = (rd_T56 c (n : Int)).f5 := by
  have hi := run_idx h n hn n 0 (by omega)
  rw [List.drop_zero] at hi
  unfold runv
  rw [hi]
  unfold terrain_Run.at
  rw [if_neg (by omega)]
  exact ⟨rfl, rfl⟩
theorem crun_self {c : List S56} (h : Upto c 0) (l : List S28) (n : Nat) (hn : n < c.length) : crun c l (rd_T56 c (n : Int)).f0 = (shut l 1 (rd_T56 c (n : Int)).f0 || shut l 3 (rd_T56 c (n : Int)).f5) := by
  obtain ⟨h1, h2⟩ := runv_self h n hn
  unfold crun
  rw [h1, h2, Bool.true_and]

theorem shut_append (l : List S28) (p : S28) (a b : Int) : shut (l ++ [p]) a b = (shut l a b || (p.f0 == a && p.f1 == b)) := by
  unfold shut
  rw [List.any_append]
  simp
theorem close_shut {l : List S28} {a b c e : Int} (h : (closev l a b c e).2 = 0) (x y : Int) : shut (closev l a b c e).1 x y = (shut l x y || (a == x && b == y)) := by
  unfold closev at h ⊢
  by_cases hv : vb a b c e = true
  · rw [if_pos hv] at h ⊢
    by_cases hp : pl l a b c ≥ 0
    · rw [if_pos hp]
      by_cases hxy : (a == x && b == y) = true
      · rw [hxy, Bool.or_true]
        simp only [Bool.and_eq_true, beq_iff_eq] at hxy
        obtain ⟨rfl, rfl⟩ := hxy
        exact shut_iff.2 ⟨c, pl_pos.1 hp⟩
      · rw [Bool.eq_false_iff.2 hxy, Bool.or_false]
    · rw [if_neg hp] at h ⊢
      by_cases h2 : (l.length : Int) ≥ 200
      · rw [if_pos h2] at h
        exact absurd h (by decide)
      · rw [if_neg h2]
        exact shut_append l ⟨a, b, c, e⟩ x y
  · rw [if_neg hv] at h
    exact absurd h (by decide)

theorem targets_l1 (l : List S28) (hg : Plain.Good l) (a b c e : Int) (o : List Int) (ho : o.length ≤ 1000) (h1 : ∀ x ∈ o, 1 ≤ x ∧ x ≤ 6) (h2 : o.Pairwise (fun x y => x < y)) : ∀ (d i : Nat), i + d = o.length → Ev (fun k => skiarealaw52_ClosureTargets.l1 k l o (i : Int) a b c e) true
  | 0, i, h => by
    have hl : l.length ≤ 1000000 := Nat.le_trans hg.1 (by decide)
    refine Ev.step (fun _ => rfl) ?_
    simp only [skiarealaw52_ClosureTargets.l1]
    refine ev_if_neg (by omega) (ev_bind_some (lift_eq l b) (ev_bind (of_ev l hl 2 b) ?_))
    rw [ofv_shut]
    refine ev_if_pos (by simp) (ev_bind (of_ev [] (by simp) a b) (ev_some ?_))
    have := ofv_len [] a b
    simp at this
    simp [this]
  | d + 1, i, h => by
    refine Ev.step (fun _ => rfl) ?_
    simp only [skiarealaw52_ClosureTargets.l1]
    have hi : i < o.length := by omega
    have hb := h1 _ (List.getElem_mem hi)
    rw [rdi_at o i hi, wrap_next (by omega), wrap_pred (by omega)]
    refine ev_if_pos (by omega) (ev_if_pos (by omega) (ev_if_neg (by omega) (ev_if_neg (by omega) ?_)))
    have ih := targets_l1 l hg a b c e o ho h1 h2 d (i + 1) (by omega)
    by_cases h0 : (i : Int) > 0
    · refine ev_if_pos h0 (ev_if_pos (by omega) (ev_if_pos (by omega) (ev_if_neg ?_ ih)))
      rw [show ((i : Int) - 1) = ((i - 1 : Nat) : Int) by omega, rdi_at o (i - 1) (by omega)]
      have := List.pairwise_iff_getElem.1 h2 (i - 1) i (by omega) hi (by omega)
      omega
    · exact ev_if_neg h0 ih
theorem targets_j2 (a b e) (c : List S56) (hc : Upto c 0) (l x : List S28) (er : Int) (n : Nat) (hn : n < c.length) (p0 p1 p2 p3 : Int) (s : Bool)
    (hs : er = 0 → ∀ u v : Int, shut x u v = (shut l u v || (p0 == u && p1 == v))) (hh : s = ((p0 == 1 && p1 == (rd_T56 c (n : Int)).f0) || (p0 == 3 && p1 == (rd_T56 c (n : Int)).f5)))
    (q1 q2 q3 q4 q5 q6 : Int) (hnx : Ev (fun k => skiarealaw52_ClosureTargets.l0 k l x er (wrap64 ((n : Int) + 1)) a b c e p0 p1 p2 p3) true) :
    Ev (fun k => skiarealaw52_ClosureTargets.j2 k l x er (n : Int) (crun c l (rd_T56 c (n : Int)).f0) s a b c e p0 p1 p2 p3 (rd_T56 c (n : Int)).f0 q1 q2 q3 q4 q5 q6) true := by
  refine Ev.step (fun _ => rfl) ?_
  simp only [skiarealaw52_ClosureTargets.j2]
  by_cases h0 : er = 0
  · refine ev_if_pos h0 (ev_bind_some (crun_eq a b c e x _) ?_)
    have hk : crun c x (rd_T56 c (n : Int)).f0 = (crun c l (rd_T56 c (n : Int)).f0 || s) := by
      rw [crun_self hc x n hn, crun_self hc l n hn, hs h0, hs h0, hh]
      cases shut l 1 (rd_T56 c (n : Int)).f0 <;> cases shut l 3 (rd_T56 c (n : Int)).f5 <;> simp
    rw [hk]
    cases hcr : crun c l (rd_T56 c (n : Int)).f0
    · exact ev_if_neg (by simp) (ev_if_neg (by simp) hnx)
    · exact ev_if_pos rfl (ev_if_neg (by simp) hnx)
  · exact ev_if_neg h0 hnx
theorem targets_l0 (a b e) (c : List S56) (hc : Upto c 0) (hcl : c.length ≤ 64) (l x : List S28) (hg : Plain.Good l) (er : Int) (p0 p1 p2 p3 : Int)
    (hs : er = 0 → ∀ u v : Int, shut x u v = (shut l u v || (p0 == u && p1 == v))) : ∀ (d n : Nat), n + d = c.length → Ev (fun k => skiarealaw52_ClosureTargets.l0 k l x er (n : Int) a b c e p0 p1 p2 p3) true
  | 0, n, h => by
    have hl : l.length ≤ 1000000 := Nat.le_trans hg.1 (by decide)
    refine Ev.step (fun _ => rfl) ?_
    simp only [skiarealaw52_ClosureTargets.l0]
    refine ev_if_neg (by omega) (ev_bind (of_ev l hl p0 p1) ?_)
    rw [ofv_rof hg]
    refine targets_l1 l hg p0 p1 p2 p3 (rof l p0 p1) (Nat.le_trans (rof_len _ _ _) (by decide)) (fun y hy => ?_) (List.Pairwise.sublist List.filter_sublist (by decide)) (rof l p0 p1).length 0 (by omega)
    have := (List.mem_filter.1 hy).1
    simp only [List.mem_cons, List.not_mem_nil, or_false] at this
    omega
  | d + 1, n, h => by
    have hl : l.length ≤ 1000000 := Nat.le_trans hg.1 (by decide)
    have hn : n < c.length := by omega
    refine Ev.step (fun _ => rfl) ?_
    simp only [skiarealaw52_ClosureTargets.l0]
    refine ev_if_pos (by omega) (ev_if_pos (by omega) (ev_bind_some (crun_eq a b c e l _) (ev_bind (of_ev l hl _ _) (ev_bind (of_ev l hl _ _) (ev_if_neg ?_ ?_)))))
    · have hw1 := ofv_len l 1 (rd_T56 c (n : Int)).f0
      have hw2 := ofv_len l 3 (rd_T56 c (n : Int)).f5
      rw [HEv.wrap_small (by omega) (by omega), crun_self hc l n hn, ← ofv_shut, ← ofv_shut]
      have : (decide (((ofv l 1 (rd_T56 c (n : Int)).f0).length : Int) > 0) || decide (((ofv l 3 (rd_T56 c (n : Int)).f5).length : Int) > 0)) = decide (((ofv l 1 (rd_T56 c (n : Int)).f0).length : Int) + ((ofv l 3 (rd_T56 c (n : Int)).f5).length : Int) > 0) := by
        rw [Bool.eq_iff_iff]
        simp only [Bool.or_eq_true, decide_eq_true_eq]
        omega
      rw [this]
      simp
    · have hnx : Ev (fun k => skiarealaw52_ClosureTargets.l0 k l x er (wrap64 ((n : Int) + 1)) a b c e p0 p1 p2 p3) true := by
        rw [wrap_next (by omega)]
        exact targets_l0 a b e c hc hcl l x hg er p0 p1 p2 p3 hs d (n + 1) (by omega)
      by_cases k1 : p0 = 1
      · refine ev_if_pos k1 ?_
        by_cases k2 : p1 = (rd_T56 c (n : Int)).f0
        · exact ev_if_pos k2 (targets_j2 a b e c hc l x er n hn p0 p1 p2 p3 true hs (by simp [k1, k2]) _ _ _ _ _ _ hnx)
        · refine ev_if_neg k2 ?_
          by_cases k3 : p0 = 3
          · omega
          · exact ev_if_neg k3 (targets_j2 a b e c hc l x er n hn p0 p1 p2 p3 false hs (by simp [k2, k3]) _ _ _ _ _ _ hnx)
      · refine ev_if_neg k1 ?_
        by_cases k3 : p0 = 3
        · exact ev_if_pos k3 (targets_j2 a b e c hc l x er n hn p0 p1 p2 p3 _ hs (by simp [k3]) _ _ _ _ _ _ hnx)
        · exact ev_if_neg k3 (targets_j2 a b e c hc l x er n hn p0 p1 p2 p3 false hs (by simp [k1, k3]) _ _ _ _ _ _ hnx)
theorem targets_true (l : List S28) (a b c e) (x y z u : Int) : Ev (fun k => skiarealaw52_ClosureTargets.j0 k l true a b c e x y z u) true := by
  refine Ev.step (fun _ => rfl) ?_
  simp only [skiarealaw52_ClosureTargets.j0]
  exact ev_if_pos trivial (ev_some rfl)
theorem targets_false (l : List S28) (hg : Plain.Good l) (a b e) (c : List S56) (hc : Upto c 0) (hcl : c.length ≤ 64) (x y z u : Int) : Ev (fun k => skiarealaw52_ClosureTargets.j0 k l false a b c e x y z u) true := by
  refine Ev.step (fun _ => rfl) ?_
  simp only [skiarealaw52_ClosureTargets.j0]
  exact ev_if_neg (by simp) (ev_bind_some (close_eq l (Nat.le_trans hg.1 (by decide)) x y z u) (targets_l0 a b e c hc hcl l _ hg _ x y z u (fun h0 p q => close_shut h0 p q) c.length 0 (by omega)))
theorem ClosureTargets : ∀ (s0 : S41) (l1 : List (S28)) (s2 : S28), (ok41 s0) → ((∀ y ∈ l1, ok28 y) ∧ l1.length * 32 ≤ 140737488351232 ∧ l1.length ≤ 9223372036854775807) → (ok28 s2) → ∃ k, skiarealaw52_ClosureTargets.f k (s0.f0) (s0.f1) (s0.f2) (s0.f3) l1 (s2.f0) (s2.f1) (s2.f2) (s2.f3) = some true := by
  intro s0 l1 s2 _ _ _
  refine Ev.rounds (g := fun k => skiarealaw52_ClosureTargets.f k (s0.f0) (s0.f1) (s0.f2) (s0.f3) l1 (s2.f0) (s2.f1) (s2.f2) (s2.f3)) ?_
  simp only [skiarealaw52_ClosureTargets.f]
  refine ev_bind alive_ev (ev_if_pos rfl (ev_bind (lawRight_ev l1) ?_))
  by_cases h : rv l1 = 0
  · refine ev_if_pos (by simp [h]) ?_
    obtain ⟨v, hv, hp⟩ := mapRightP s0.f0 s0.f1 s0.f2 s0.f3
    refine ev_bind hv ?_
    by_cases h0 : v = 0
    · rw [show (v != 0) = false by simp [h0]]
      exact targets_false l1 (rv_zero.1 h) _ _ _ _ (hp h0).2 (hp h0).1 _ _ _ _
    · rw [show (v != 0) = true by simp [h0]]
      exact targets_true _ _ _ _ _ _ _ _ _
  · exact ev_if_neg (by simp [h]) (targets_true _ _ _ _ _ _ _ _ _)
end Go.Proofs.Ytnnnjpkmdjkdjaa.Pure
