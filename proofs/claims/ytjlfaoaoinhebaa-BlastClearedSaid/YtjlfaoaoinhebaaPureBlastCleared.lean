/- The plain law BlastCleared. -/
import Derived.Test.YtjlfaoaoinhebaaA0
import Derived.Test.YtjlfaoaoinhebaaA32
import Derived.Test.YtjlfaoaoinhebaaSeq
namespace Go.Proofs.Ytjlfaoaoinhebaa.Pure
open Go.RowKit Go.Proofs.YtjlfaoaoinhebaaW.PrintWords Go.Proofs.Ytjlfaoaoinhebaa.A Go.Proofs.Ytjlfaoaoinhebaa.HEv Go.Proofs.Ytjlfaoaoinhebaa.Plain
set_option linter.unusedVariables false
set_option linter.unusedSimpArgs false
/-- What the operations so far say of a mission: who is cleared or armed was cleared, who is armed was armed by the person in charge. -/
def Told (b : List S46) (m : S30) : Prop := (m.f3 = 1 ∨ m.f3 = 2 → Dn b 1 m 0) ∧ (m.f3 = 2 → Dn b 2 m m.f2)
theorem dn_more {b : List S46} {y : S46} {k p : Int} {m : S30} (h : Dn b k m p) : Dn (b ++ [y]) k m p := by
  obtain ⟨x, hx, hp⟩ := h
  exact ⟨x, List.mem_append_left _ hx, hp⟩
theorem told_more {b : List S46} {y : S46} {m : S30} (h : Told b m) : Told (b ++ [y]) m := ⟨fun h1 => dn_more (h.1 h1), fun h2 => dn_more (h.2 h2)⟩
theorem told_step {l : List S30} {x : S46} {b : List S46} (ht : ∀ m ∈ l, Told b m) (h : (dov l x).2 = true) : ∀ m ∈ (dov l x).1, Told (b ++ [x]) m := by
  intro m hm
  rcases do_spec h with ⟨_, he, _⟩ | ⟨j, hj, st, _, h2, _, _, he, hs⟩
  · rw [he] at hm
    rcases List.mem_append.1 hm with hm | hm
    · exact told_more (ht m hm)
    · rw [List.mem_singleton.1 hm]
      have h0 : (newm x).f3 = 0 := rfl
      exact ⟨fun h1 => by omega, fun h1 => by omega⟩
  · rw [he] at hm
    rcases List.mem_or_eq_of_mem_set hm with hm | rfl
    · exact told_more (ht m hm)
    · have hold := ht _ (List.getElem_mem hj)
      have e3 : (tox st x.f4 l[j]).f3 = st := rfl
      rcases hs with hs | hs | hs | hs | hs
      · refine ⟨fun _ => ⟨x, by simp, hs.1, h2.symm, hs.2.2.2.2.1, hs.2.2.2.2.2, .inl rfl, fun _ => hs.2.2.2.1⟩, fun h9 => by omega⟩
      · refine ⟨fun _ => ?_, fun _ => ⟨x, by simp, hs.1, h2.symm, hs.2.2.2.2.1, hs.2.2.2.2.2, .inr hs.2.2.2.1, fun h9 => by omega⟩⟩
        exact dn_more (hold.1 (.inl hs.2.2.1))
      · exact ⟨fun h1 => by omega, fun h1 => by omega⟩
      · exact ⟨fun h1 => by omega, fun h1 => by omega⟩
      · exact ⟨fun h1 => by omega, fun h1 => by omega⟩
/-- What the law looks at behind an operation that succeeded: m, if it is there, is the mission that was; y the one that is. -/
theorem cleared_look {l : List S30} {x : S46} {b : List S46} (hg : Plain.Good l) (ht : ∀ m ∈ l, Told b m) (h : (dov l x).2 = true) :
    ∃ y : S30, fndv (dov l x).1 x.f1 = (y.f0, y.f1, y.f2, y.f3, y.f4, y.f5.f0, y.f5.f1, true) ∧ y.f4 = x.f4 ∧ (x.f0 ≠ 3 → y.f3 ≠ 3 ∧ y.f3 ≠ 4) ∧
      ((x.f0 ≠ 3 ∧ fndv l x.f1 = (0, 0, 0, 0, 0, 0, 0, false)) ∨ ∃ m : S30, fndv l x.f1 = (m.f0, m.f1, m.f2, m.f3, m.f4, m.f5.f0, m.f5.f1, true) ∧ m.f4 ≤ x.f4 ∧ (x.f0 = 3 → x.f8 = true ∧ x.f3 = m.f2 ∧ Dn b 1 m 0 ∧ Dn b 2 m m.f2)) := by
  have hg' := do_good hg h
  rcases do_spec h with ⟨h0, he, hgn⟩ | ⟨j, hj, st, h1, h2, h3, h4, he, hs⟩
  · rw [he] at hg' ⊢
    have hn : ∀ y ∈ l, y.f0 ≠ x.f1 := fun y hy => (List.pairwise_append.1 (show (l ++ [newm x]).Pairwise (fun a b => a.f0 ≠ b.f0) from hg'.2.2.1)).2.2 y hy (newm x) (List.mem_singleton.2 rfl)
    have hlen : l.length < (l ++ [newm x]).length := by simp
    have hix := ix_uniq hg' (id := x.f1) (j := l.length) hlen (by simp [newm])
    refine ⟨newm x, ?_, rfl, fun _ => ⟨by show (0 : Int) ≠ 3; decide, by show (0 : Int) ≠ 4; decide⟩, .inl ⟨by omega, fndv_none hn⟩⟩
    rw [fndv_at hlen hix]
    simp
  · rw [he] at hg' ⊢
    have hj' : j < (l.set j (tox st x.f4 l[j])).length := by rw [List.length_set]; exact hj
    have hix := ix_uniq hg' (id := x.f1) hj' (by rw [List.getElem_set_self]; exact h2)
    refine ⟨tox st x.f4 l[j], ?_, rfl, fun hne => ?_, .inr ⟨l[j], fndv_at hj h1, h3, fun hk => ?_⟩⟩
    · rw [fndv_at hj' hix, List.getElem_set_self]
    · show st ≠ 3 ∧ st ≠ 4
      rcases hs with hs | hs | hs | hs | hs <;> omega
    · have hold := ht _ (List.getElem_mem hj)
      rcases hs with hs | hs | hs | hs | hs
      · omega
      · omega
      · exact ⟨hs.2.2.2.2, hs.2.2.2.1, hold.1 (.inr hs.2.2.1), hold.2 hs.2.2.1⟩
      · omega
      · omega
theorem cleared_j2 (ops before : List S46) (hb : before.length ≤ 1000000) (i : Nat) (hi : i ≤ 1000000) (l' : List S30) (x : S46) (y0 y1 y2 y3 y4 y5 y6 : Int) (hy : x.f0 ≠ 3 → y3 ≠ 3 ∧ y3 ≠ 4)
    (rest : Ev (fun k => skiarealaw51_BlastCleared.l0 k ops l' (before ++ [x]) ((i + 1 : Nat) : Int)) true) :
    Ev (fun k => skiarealaw51_BlastCleared.j2 k ops before (i : Int) l' false x.f0 x.f1 x.f2 x.f3 x.f4 x.f5 x.f6 x.f7 x.f8 y0 y1 y2 y3 y4 y5 y6) true := by
  refine Ev.step (fun _ => rfl) ?_
  simp only [skiarealaw51_BlastCleared.j2]
  rw [wrap_next (by omega)]
  refine ev_if_neg (by simp) ?_
  by_cases h3 : x.f0 = 3
  · exact ev_if_pos h3 (ev_if_pos (by omega) rest)
  · exact ev_if_neg h3 (ev_if_neg (hy h3).1 (ev_if_neg (hy h3).2 (ev_if_pos (by omega) rest)))
theorem cleared_j1 (ops before : List S46) (hb : before.length ≤ 1000000) (i : Nat) (hi : i ≤ 1000000) (l' : List S30) (x : S46) (m : S30) (is : Bool) (y0 y1 y2 y3 y4 y5 y6 : Int) (hy : x.f0 ≠ 3 → y3 ≠ 3 ∧ y3 ≠ 4)
    (hm : x.f0 = 3 → is = true ∧ x.f8 = true ∧ x.f3 = m.f2 ∧ Dn before 1 m 0 ∧ Dn before 2 m m.f2)
    (rest : Ev (fun k => skiarealaw51_BlastCleared.l0 k ops l' (before ++ [x]) ((i + 1 : Nat) : Int)) true) :
    Ev (fun k => skiarealaw51_BlastCleared.j1 k ops before (i : Int) l' is false x.f0 x.f1 x.f2 x.f3 x.f4 x.f5 x.f6 x.f7 x.f8 m.f0 m.f1 m.f2 m.f3 m.f4 m.f5.f0 m.f5.f1 y0 y1 y2 y3 y4 y5 y6) true := by
  refine Ev.step (fun _ => rfl) ?_
  simp only [skiarealaw51_BlastCleared.j1]
  have hj := cleared_j2 ops before hb i hi l' x y0 y1 y2 y3 y4 y5 y6 hy rest
  refine ev_if_neg (by simp) ?_
  by_cases h3 : x.f0 = 3
  · obtain ⟨h4, h5, h6, h7, h8⟩ := hm h3
    exact ev_if_pos h3 (ev_if_pos h4 (ev_if_pos h5 (ev_if_pos h6 (ev_bind (done_ev before hb 1 0 m h7) (ev_if_pos rfl (ev_bind (done_ev before hb 2 m.f2 m h8) hj))))))
  · exact ev_if_neg h3 hj
theorem cleared_l0 (ops : List S46) (hops : ops.length ≤ 1000000) : ∀ (d i : Nat) (l : List S30) (before : List S46), Plain.Good l → (∀ m ∈ l, Told before m) → before.length ≤ i → i + d = ops.length → Ev (fun k => skiarealaw51_BlastCleared.l0 k ops l before (i : Int)) true
  | 0, i, l, before, hg, ht, hb, h => by
    refine Ev.step (fun _ => rfl) ?_
    simp only [skiarealaw51_BlastCleared.l0]
    exact ev_if_neg (by omega) (ev_some rfl)
  | d + 1, i, l, before, hg, ht, hb, h => by
    refine Ev.step (fun _ => rfl) ?_
    simp only [skiarealaw51_BlastCleared.l0]
    have hl : l.length ≤ 1000000 := Nat.le_trans hg.1 (by decide)
    have rest := fun l' b' hl' ht' hb' => cleared_l0 ops hops d (i + 1) l' b' hl' ht' hb' (by omega)
    generalize rd_T46 ops (i : Int) = x
    refine ev_if_pos (by omega) (ev_if_pos (by omega) (ev_bind_some (do_eq l hl x) ?_))
    cases hd : (dov l x).2 with
    | true =>
      have hg' := do_good hg hd
      have hl' : (dov l x).1.length ≤ 1000000 := Nat.le_trans hg'.1 (by decide)
      have hr := rest (dov l x).1 (before ++ [x]) hg' (told_step ht hd) (by simp; omega)
      obtain ⟨y, hy1, hy2, hy3, hm⟩ := cleared_look hg ht hd
      refine ev_if_pos rfl (ev_bind (find_ev l hl x.f1) (ev_bind (find_ev _ hl' x.f1) ?_))
      rw [hy1]
      refine ev_if_pos rfl (ev_if_pos hy2 ?_)
      rcases hm with ⟨hm0, hm1⟩ | ⟨m, hm1, hm2, hm3⟩
      · rw [hm1]
        refine ev_if_neg (by simp) ?_
        exact cleared_j1 ops before (by omega) i (by omega) _ x ⟨0, 0, 0, 0, 0, ⟨0, 0⟩⟩ false y.f0 y.f1 y.f2 y.f3 y.f4 y.f5.f0 y.f5.f1 hy3 (fun h3 => absurd h3 hm0) hr
      · rw [hm1]
        refine ev_if_pos rfl ?_
        have hlt : decide (x.f4 < m.f4) = false := decide_eq_false (by omega)
        show Ev (fun k => skiarealaw51_BlastCleared.j1 k ops before (i : Int) (dov l x).1 true (decide (x.f4 < m.f4)) x.f0 x.f1 x.f2 x.f3 x.f4 x.f5 x.f6 x.f7 x.f8 m.f0 m.f1 m.f2 m.f3 m.f4 m.f5.f0 m.f5.f1 y.f0 y.f1 y.f2 y.f3 y.f4 y.f5.f0 y.f5.f1) true
        rw [hlt]
        exact cleared_j1 ops before (by omega) i (by omega) _ x m true y.f0 y.f1 y.f2 y.f3 y.f4 y.f5.f0 y.f5.f1 hy3 (fun h3 => ⟨rfl, hm3 h3⟩) hr
    | false =>
      refine ev_if_neg (by simp) ?_
      rw [wrap_next (by omega)]
      exact rest l before hg ht (by omega)
theorem BlastCleared : ∀ (l0 : List (S46)), ((∀ y ∈ l0, ok46 y) ∧ l0.length * 64 ≤ 140737488351232 ∧ l0.length ≤ 9223372036854775807) → ∃ k, skiarealaw51_BlastCleared.f k l0 = some true := by
  intro ops _
  refine Ev.rounds (g := fun k => skiarealaw51_BlastCleared.f k ops) ?_
  simp only [skiarealaw51_BlastCleared.f]
  refine ev_bind alive_ev (ev_if_pos rfl ?_)
  by_cases h : (ops.length : Int) > 40
  · exact ev_if_pos h (ev_some rfl)
  · exact ev_if_neg h (cleared_l0 ops (by omega) ops.length 0 [] [] ⟨by simp, by simp, List.Pairwise.nil, List.Pairwise.nil⟩ (by simp) (Nat.le_refl _) (by omega))
end Go.Proofs.Ytjlfaoaoinhebaa.Pure
