/- The plain law BlastOthers. -/
import Derived.Test.YtjlfaoaoinhebaaA0
import Derived.Test.YtjlfaoaoinhebaaA35
import Derived.Test.YtjlfaoaoinhebaaSeq
namespace Go.Proofs.Ytjlfaoaoinhebaa.Pure
open Go.RowKit Go.Proofs.YtjlfaoaoinhebaaW.PrintWords Go.Proofs.Ytjlfaoaoinhebaa.A Go.Proofs.Ytjlfaoaoinhebaa.HEv Go.Proofs.Ytjlfaoaoinhebaa.Plain
set_option linter.unusedVariables false
set_option linter.unusedSimpArgs false
theorem others_at {l : List S30} {x : S46} (h : (dov l x).2 = true) : (l.length ≤ (dov l x).1.length ∧ (dov l x).1.length ≤ l.length + 1 ∧ (l.length < (dov l x).1.length ↔ x.f0 = 0)) ∧ ∀ q, ∀ hq : q < l.length, ∃ hq2 : q < (dov l x).1.length, (l[q].f0 ≠ x.f1 → (dov l x).1[q] = l[q]) ∧ (dov l x).1[q].f0 = l[q].f0 ∧ (dov l x).1[q].f1 = l[q].f1 ∧ (dov l x).1[q].f2 = l[q].f2 ∧ (dov l x).1[q].f5 = l[q].f5 := by
  rcases do_spec h with ⟨h0, he, _⟩ | ⟨j, hj, st, _, h2, _, _, he, ht⟩
  · rw [he]
    refine ⟨⟨by simp, by simp, by simp [h0]⟩, fun q hq => ⟨by simp; omega, ?_⟩⟩
    rw [List.getElem_append_left hq]
    exact ⟨fun _ => rfl, rfl, rfl, rfl, rfl⟩
  · rw [he]
    have h0 : x.f0 ≠ 0 := by
      rcases ht with ht | ht | ht | ht | ht <;> omega
    refine ⟨⟨by simp, by simp, by simp [h0]⟩, fun q hq => ⟨by simpa using hq, ?_⟩⟩
    rw [List.getElem_set]
    split
    · rename_i e
      subst e
      exact ⟨fun hne => absurd h2 hne, rfl, rfl, rfl, rfl⟩
    · exact ⟨fun _ => rfl, rfl, rfl, rfl, rfl⟩
theorem others_l1 (ops : List S46) (i : Nat) (hi : i < ops.length) (hi2 : ops.length ≤ 1000000) (l l' : List S30) (hl : l.length ≤ 1000000) (rest : Ev (fun k => skiarealaw51_BlastOthers.l0 k ops l' ((i + 1 : Nat) : Int)) true)
    (hk : ∀ q, ∀ hq : q < l.length, ∃ hq2 : q < l'.length, (l[q].f0 ≠ (rd_T46 ops (i : Int)).f1 → l'[q] = l[q]) ∧ l'[q].f0 = l[q].f0 ∧ l'[q].f1 = l[q].f1 ∧ l'[q].f2 = l[q].f2 ∧ l'[q].f5 = l[q].f5) :
    ∀ (d j : Nat), j + d = l.length → Ev (fun k => skiarealaw51_BlastOthers.l1 k ops l (i : Int) l' (j : Int)) true
  | 0, j, h => by
    refine Ev.step (fun _ => rfl) ?_
    simp only [skiarealaw51_BlastOthers.l1]
    rw [wrap_next (i := i) (by omega)]
    exact ev_if_neg (by omega) rest
  | d + 1, j, h => by
    refine Ev.step (fun _ => rfl) ?_
    simp only [skiarealaw51_BlastOthers.l1]
    have hj : j < l.length := by omega
    have ih := others_l1 ops i hi hi2 l l' hl rest hk d (j + 1) (by omega)
    obtain ⟨hj2, k0, k1, k2, k3, k4⟩ := hk j hj
    rw [rd_at l j hj, rd_at l' j hj2, wrap_next (i := j) (by omega)]
    have k5 : l'[j].f5.f0 = l[j].f5.f0 ∧ l'[j].f5.f1 = l[j].f5.f1 := by rw [k4]; exact ⟨rfl, rfl⟩
    have tail : Ev (fun k => if l[j].f0 = l'[j].f0 then (if l[j].f1 = l'[j].f1 then (if l[j].f2 = l'[j].f2 then (if (!(l[j].f5.f0 == l'[j].f5.f0) || (!(l[j].f5.f1 == l'[j].f5.f1))) = true then none else skiarealaw51_BlastOthers.l1 k ops l (i : Int) l' ((j + 1 : Nat) : Int)) else none) else none) else none) true :=
      ev_if_pos k1.symm (ev_if_pos k2.symm (ev_if_pos k3.symm (ev_if_neg (by simp [k5]) ih)))
    refine ev_if_pos (by omega) (ev_if_pos (by omega) (ev_if_pos (by omega) (ev_if_pos (by omega) (ev_if_pos (by omega) ?_))))
    by_cases h1 : l[j].f0 = (rd_T46 ops (i : Int)).f1
    · exact ev_if_pos h1 tail
    · refine ev_if_neg h1 (ev_if_neg ?_ tail)
      rw [k0 h1]
      simp
theorem others_l0 (ops : List S46) (hops : ops.length ≤ 1000000) : ∀ (d i : Nat) (l : List S30), Plain.Good l → i + d = ops.length → Ev (fun k => skiarealaw51_BlastOthers.l0 k ops l (i : Int)) true
  | 0, i, l, hg, h => by
    refine Ev.step (fun _ => rfl) ?_
    simp only [skiarealaw51_BlastOthers.l0]
    exact ev_if_neg (by omega) (ev_some rfl)
  | d + 1, i, l, hg, h => by
    refine Ev.step (fun _ => rfl) ?_
    simp only [skiarealaw51_BlastOthers.l0]
    have hl : l.length ≤ 1000000 := Nat.le_trans hg.1 (by decide)
    have rest := fun l' hl' => others_l0 ops hops d (i + 1) l' hl' (by omega)
    refine ev_if_pos (by omega) (ev_if_pos (by omega) (ev_bind_some (do_eq l hl (rd_T46 ops (i : Int))) ?_))
    cases hd : (dov l (rd_T46 ops (i : Int))).2 with
    | true =>
      have hg' := do_good hg hd
      obtain ⟨⟨o1, o2, o3⟩, o4⟩ := others_at hd
      refine ev_if_pos rfl (ev_bind_some (right_eq _) (ev_if_pos (rv_zero.2 hg') (ev_if_neg (by omega) ?_)))
      rw [HEv.wrap_small (by omega) (by omega)]
      refine ev_if_neg (by omega) ?_
      refine Ev.step (fun _ => rfl) ?_
      simp only [skiarealaw51_BlastOthers.j2]
      refine ev_if_neg ?_ (others_l1 ops i (by omega) hops l _ hl (rest _ hg') o4 l.length 0 (Nat.zero_add _))
      by_cases h0 : (rd_T46 ops (i : Int)).f0 = 0
      · have := o3.2 h0
        rw [decide_eq_true (by omega), h0]
        simp
      · have : ¬ l.length < (dov l (rd_T46 ops (i : Int))).1.length := fun hh => h0 (o3.1 hh)
        rw [decide_eq_false (by omega), beq_eq_false_iff_ne.2 h0]
        simp
    | false =>
      refine ev_if_neg (by simp) ?_
      rw [wrap_next (by omega)]
      exact rest l hg
theorem BlastOthers : ∀ (l0 : List (S30)) (l1 : List (S46)), ((∀ y ∈ l0, ok30 y) ∧ l0.length * 56 ≤ 140737488351232 ∧ l0.length ≤ 9223372036854775807) → ((∀ y ∈ l1, ok46 y) ∧ l1.length * 64 ≤ 140737488351232 ∧ l1.length ≤ 9223372036854775807) → ∃ k, skiarealaw51_BlastOthers.f k l0 l1 = some true := by
  intro l ops _ _
  refine Ev.rounds (g := fun k => skiarealaw51_BlastOthers.f k l ops) ?_
  simp only [skiarealaw51_BlastOthers.f]
  refine ev_bind alive_ev (ev_if_pos rfl (ev_bind_some (right_eq l) ?_))
  by_cases h : rv l = 0
  · refine ev_if_pos h ?_
    refine Ev.step (fun _ => rfl) ?_
    simp only [skiarealaw51_BlastOthers.j0]
    refine ev_if (fun _ => ev_some rfl) (fun hb => others_l0 ops ?_ ops.length 0 l (rv_zero.1 h) (by omega))
    simp at hb
    omega
  · refine ev_if_neg h ?_
    refine Ev.step (fun _ => rfl) ?_
    simp only [skiarealaw51_BlastOthers.j0]
    exact ev_if_pos trivial (ev_some rfl)
end Go.Proofs.Ytjlfaoaoinhebaa.Pure
