/- The plain law BlastWaits. -/
import Derived.Test.YtjlfaoaoinhebaaA0
import Derived.Test.YtjlfaoaoinhebaaA34
import Derived.Test.YtjlfaoaoinhebaaSeq
namespace Go.Proofs.Ytjlfaoaoinhebaa.Pure
open Go.RowKit Go.Proofs.YtjlfaoaoinhebaaW.PrintWords Go.Proofs.Ytjlfaoaoinhebaa.A Go.Proofs.Ytjlfaoaoinhebaa.HEv Go.Proofs.Ytjlfaoaoinhebaa.Plain
set_option linter.unusedVariables false
set_option linter.unusedSimpArgs false
theorem waits_kept {l : List S30} {x : S46} (hl : Plain.Good l) (h : (dov l x).2 = true) {s : Int} (hs : s ∈ actv l) : s ∈ actv (dov l x).1 ∨ ((x.f0 = 4 ∨ x.f0 = 5) ∧ (fndv l x.f1).2.1 = s) := by
  obtain ⟨y, hy, ha, rfl⟩ := mem_actv.1 hs
  rcases do_spec h with ⟨_, he, _⟩ | ⟨j, hj, st, h1, h2, h3, h4, he, ht⟩
  · rw [he]
    exact .inl (mem_actv.2 ⟨y, List.mem_append_left _ hy, ha, rfl⟩)
  · obtain ⟨q, hq, rfl⟩ := List.getElem_of_mem hy
    rw [he]
    by_cases e : q = j
    · subst e
      have keep : (ov st = true ∧ st ≠ 0) → l[q].f1 ∈ actv (l.set q (tox st x.f4 l[q])) := fun hh => mem_actv.2 ⟨tox st x.f4 l[q], List.mem_set hj _, hh, rfl⟩
      have gone : l[q].f1 = (fndv l x.f1).2.1 := by rw [fndv_at hj h1]
      have ho := ov_iff st
      rcases ht with ht | ht | ht | ht | ht
      · exact absurd ht.2.2.1 ha.2
      · exact .inl (keep ⟨ho.2 (by omega), by omega⟩)
      · exact .inl (keep ⟨ho.2 (by omega), by omega⟩)
      · exact .inr ⟨.inl ht.1, gone.symm⟩
      · exact .inr ⟨.inr ht.1, gone.symm⟩
    · refine .inl (mem_actv.2 ⟨l[q], ?_, ha, rfl⟩)
      have hq2 : q < (l.set j (tox st x.f4 l[j])).length := by rw [List.length_set]; exact hq
      have := List.getElem_mem hq2
      rw [List.getElem_set_ne (fun e2 => e e2.symm)] at this
      exact this
theorem waits_mis {l : List S30} {x : S46} (hl : Plain.Good l) (h : (dov l x).2 = true) (h1 : (fndv l x.f1).2.2.2.1 = 4) : x.f0 = 5 ∧ ¬ (wrap64 (x.f4 - (fndv l x.f1).2.2.2.2.1) < 1800) := by
  rcases do_spec h with ⟨_, he, hg⟩ | ⟨j, hj, st, g1, g2, g3, g4, he, ht⟩
  · rw [he] at hg
    have hn : ∀ y ∈ l, y.f0 ≠ x.f1 := fun y hy => (List.pairwise_append.1 (show (l ++ [newm x]).Pairwise (fun a b => a.f0 ≠ b.f0) from hg.2.2.1)).2.2 y hy (newm x) (List.mem_singleton.2 rfl)
    rw [fndv_none hn] at h1
    exact absurd h1 (by simp)
  · rw [fndv_at hj g1] at h1 ⊢
    have h2 : l[j].f3 = 4 := h1
    have hm := (fv_iff _).1 (hl.2.1 _ (List.getElem_mem hj))
    rcases ht with ht | ht | ht | ht | ht
    · omega
    · omega
    · omega
    · omega
    · refine ⟨ht.1, ?_⟩
      have h9 := ht.2.2.2.2
      rw [HEv.wrap_small (by omega) (by omega)] at h9
      show ¬ (wrap64 (x.f4 - l[j].f4) < 1800)
      rw [HEv.wrap_small (by omega) (by omega)]
      intro hlt
      exact h9 ⟨h2, by omega⟩
theorem waits_l1 (ops : List S46) (i : Nat) (hi : i ≤ 1000000) (l' : List S30) (was is : List Int) (hw : was.length ≤ 1000000) (his : is.length ≤ 1000000) (x : S46) (m0 m1 m2 m3 m4 m5 m6 : Int)
    (hk : ∀ s ∈ was, s ∈ is ∨ ((x.f0 = 4 ∨ x.f0 = 5) ∧ m1 = s)) (hm : m3 = 4 → x.f0 = 5 ∧ ¬ (wrap64 (x.f4 - m4) < 1800)) (rest : Ev (fun k => skiarealaw51_BlastWaits.l0 k ops l' ((i + 1 : Nat) : Int)) true) :
    ∀ (d j : Nat), j + d = was.length → Ev (fun k => skiarealaw51_BlastWaits.l1 k ops (i : Int) l' was is (j : Int) x.f0 x.f1 x.f2 x.f3 x.f4 x.f5 x.f6 x.f7 x.f8 m0 m1 m2 m3 m4 m5 m6) true
  | 0, j, h => by
    refine Ev.step (fun _ => rfl) ?_
    simp only [skiarealaw51_BlastWaits.l1]
    rw [wrap_next (i := i) (by omega)]
    refine ev_if_neg (by omega) ?_
    by_cases h4 : m3 = 4
    · obtain ⟨h5, h6⟩ := hm h4
      refine ev_if_pos h4 ?_
      by_cases h7 : m0 = x.f1
      · exact ev_if_pos h7 (ev_if_pos h5 (ev_if_neg h6 rest))
      · exact ev_if_neg h7 rest
    · exact ev_if_neg h4 rest
  | d + 1, j, h => by
    refine Ev.step (fun _ => rfl) ?_
    simp only [skiarealaw51_BlastWaits.l1]
    have hj : j < was.length := by omega
    have ih := waits_l1 ops i hi l' was is hw his x m0 m1 m2 m3 m4 m5 m6 hk hm rest d (j + 1) (by omega)
    rw [rdi_at was j hj, wrap_next (i := j) (by omega)]
    refine ev_if_pos (by omega) (ev_if_pos (by omega) (ev_bind (has_ev is his was[j]) ?_))
    by_cases h1 : was[j] ∈ is
    · exact ev_if_pos (decide_eq_true h1) ih
    · refine ev_if_neg (by simpa using h1) ?_
      obtain ⟨h2, h3⟩ := (hk was[j] (List.getElem_mem hj)).resolve_left h1
      by_cases h4 : x.f0 = 4
      · exact ev_if_pos h4 (ev_if_pos h3 ih)
      · exact ev_if_neg h4 (ev_if_pos (h2.resolve_left h4) (ev_if_pos h3 ih))
theorem actv_len (l : List S30) : (actv l).length ≤ l.length := by
  unfold actv
  rw [List.length_mergeSort]
  exact acts_le l
theorem waits_l0 (ops : List S46) (hops : ops.length ≤ 1000000) : ∀ (d i : Nat) (l : List S30), Plain.Good l → i + d = ops.length → Ev (fun k => skiarealaw51_BlastWaits.l0 k ops l (i : Int)) true
  | 0, i, l, hg, h => by
    refine Ev.step (fun _ => rfl) ?_
    simp only [skiarealaw51_BlastWaits.l0]
    exact ev_if_neg (by omega) (ev_some rfl)
  | d + 1, i, l, hg, h => by
    refine Ev.step (fun _ => rfl) ?_
    simp only [skiarealaw51_BlastWaits.l0]
    have hl : l.length ≤ 1000000 := Nat.le_trans hg.1 (by decide)
    have rest := fun l' hl' => waits_l0 ops hops d (i + 1) l' hl' (by omega)
    generalize rd_T46 ops (i : Int) = x
    refine ev_if_pos (by omega) (ev_if_pos (by omega) (ev_bind_some (do_eq l hl x) ?_))
    cases hd : (dov l x).2 with
    | true =>
      have hg' := do_good hg hd
      have hl' : (dov l x).1.length ≤ 1000000 := Nat.le_trans hg'.1 (by decide)
      refine ev_if_pos rfl (ev_bind (active_ev l hl) (ev_bind (active_ev _ hl') (ev_bind (find_ev l hl x.f1) ?_)))
      exact waits_l1 ops i (by omega) _ _ _ (Nat.le_trans (actv_len _) hl) (Nat.le_trans (actv_len _) hl') x _ _ _ _ _ _ _ (fun s hs => waits_kept hg hd hs) (waits_mis hg hd) (rest _ hg') _ 0 (Nat.zero_add _)
    | false =>
      refine ev_if_neg (by simp) ?_
      rw [wrap_next (by omega)]
      exact rest l hg
theorem BlastWaits : ∀ (l0 : List (S30)) (l1 : List (S46)), ((∀ y ∈ l0, ok30 y) ∧ l0.length * 56 ≤ 140737488351232 ∧ l0.length ≤ 9223372036854775807) → ((∀ y ∈ l1, ok46 y) ∧ l1.length * 64 ≤ 140737488351232 ∧ l1.length ≤ 9223372036854775807) → ∃ k, skiarealaw51_BlastWaits.f k l0 l1 = some true := by
  intro l ops _ _
  refine Ev.rounds (g := fun k => skiarealaw51_BlastWaits.f k l ops) ?_
  simp only [skiarealaw51_BlastWaits.f]
  refine ev_bind alive_ev (ev_if_pos rfl (ev_bind_some (right_eq l) ?_))
  by_cases h : rv l = 0
  · refine ev_if_pos h ?_
    refine Ev.step (fun _ => rfl) ?_
    simp only [skiarealaw51_BlastWaits.j0]
    refine ev_if (fun _ => ev_some rfl) (fun hb => waits_l0 ops ?_ ops.length 0 l (rv_zero.1 h) (by omega))
    simp at hb
    omega
  · refine ev_if_neg h ?_
    refine Ev.step (fun _ => rfl) ?_
    simp only [skiarealaw51_BlastWaits.j0]
    exact ev_if_pos trivial (ev_some rfl)
end Go.Proofs.Ytjlfaoaoinhebaa.Pure
