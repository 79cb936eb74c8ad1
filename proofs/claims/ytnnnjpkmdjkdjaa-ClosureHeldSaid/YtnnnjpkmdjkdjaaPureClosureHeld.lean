/- The plain law ClosureHeld. -/
import Derived.Test.YtnnnjpkmdjkdjaaA0
import Derived.Test.YtnnnjpkmdjkdjaaA5
import Derived.Test.YtnnnjpkmdjkdjaaA11
import Derived.Test.YtnnnjpkmdjkdjaaA26
import Derived.Test.YtnnnjpkmdjkdjaaA27
import Derived.Test.YtnnnjpkmdjkdjaaPlainMap
namespace Go.Proofs.Ytnnnjpkmdjkdjaa.Pure
open Go.RowKit Go.Proofs.YtnnnjpkmdjkdjaaW.PrintWords Go.Proofs.Ytnnnjpkmdjkdjaa.A Go.Proofs.Ytnnnjpkmdjkdjaa.HEv Go.Proofs.Ytnnnjpkmdjkdjaa.Plain
set_option linter.unusedVariables false
set_option linter.unusedSimpArgs false
theorem ev_if {α : Type} {c : Prop} [Decidable c] {g f : Nat → Option α} {r : α} (h1 : c → Ev g r) (h2 : ¬ c → Ev f r) : Ev (fun n => if c then g n else f n) r := by
  by_cases h : c
  · exact ev_if_pos h (h1 h)
  · exact ev_if_neg h (h2 h)
/-- The places of a key in two right lists that hold the same of it lead to the same. -/
theorem held_at {L X : List S28} (hX : Plain.Good X) {a b c : Int} (h : ∀ x, hit a b c x → x ∈ L → x ∈ X) (h1 : 0 ≤ pl L a b c) (h2 : 0 ≤ pl X a b c) : rd_T28 L (pl L a b c) = rd_T28 X (pl X a b c) := by
  rcases pl_spec L a b c with ⟨hp, _⟩ | ⟨i, hi, hp, hh⟩
  · omega
  rcases pl_spec X a b c with ⟨hq, _⟩ | ⟨j, hj, hq, hk⟩
  · omega
  rw [hp, hq, rd_at L i hi, rd_at X j hj]
  obtain ⟨m, hm, he⟩ := List.getElem_of_mem (h _ hh (List.getElem_mem hi))
  rw [← he] at hh ⊢
  obtain rfl := good_uniq hX hm hj hh hk
  rfl
def stepv (o : Bool) (L : List S28) (p q r s : Int) : List S28 × Int := if o = true then openv L p q r else closev L p q r s
theorem step_err (o : Bool) (L : List S28) (p q r s : Int) (h : (stepv o L p q r s).2 ≠ 0) : (stepv o L p q r s).1 = [] := by
  unfold stepv openv closev at h ⊢
  revert h
  repeat' split
  all_goals simp
theorem step_facts (o : Bool) (L : List S28) (hL : Plain.Good L) (a b c p q r s : Int) (h : (stepv o L p q r s).2 = 0) :
    Plain.Good (stepv o L p q r s).1 ∧ (hit a b c ⟨p, q, r, s⟩ → o = decide (pl (stepv o L p q r s).1 a b c < 0)) ∧ (¬ hit a b c ⟨p, q, r, s⟩ → (pl L a b c < 0 ↔ pl (stepv o L p q r s).1 a b c < 0)) ∧ (0 ≤ pl L a b c → 0 ≤ pl (stepv o L p q r s).1 a b c → rd_T28 L (pl L a b c) = rd_T28 (stepv o L p q r s).1 (pl (stepv o L p q r s).1 a b c)) := by
  cases o with
  | true =>
    rcases pl_spec L p q r with ⟨hp, hn⟩ | ⟨j, hj, hp, hh⟩
    · have : stepv true L p q r s = ([], 8) := by simp [stepv, openv, hp]
      rw [this] at h
      exact absurd h (by simp)
    · have he : stepv true L p q r s = (L.eraseIdx j, 0) := by
        unfold stepv openv
        rw [if_pos rfl, hp, if_neg (by omega), Int.toNat_natCast]
      rw [he]
      dsimp only
      have hg : Plain.Good (L.eraseIdx j) := good_erase hL j
      have hsub : ∀ x, ¬ hit p q r x → x ∈ L → x ∈ L.eraseIdx j := by
        intro x hx hm
        obtain ⟨i, hi, rfl⟩ := List.getElem_of_mem hm
        exact List.mem_eraseIdx_iff_getElem.2 ⟨i, hi, fun e => by subst e; exact hx hh, rfl⟩
      have hno : ∀ x ∈ L.eraseIdx j, ¬ hit p q r x := by
        intro z hz hzh
        obtain ⟨i, hi, hne, rfl⟩ := List.mem_eraseIdx_iff_getElem.1 hz
        exact hne (good_uniq hL hi hj hzh hh)
      refine ⟨hg, fun hs => ?_, fun hs => ?_, fun h1 h2 => ?_⟩
      · obtain ⟨rfl, rfl, rfl⟩ : p = a ∧ q = b ∧ r = c := hs
        exact (decide_eq_true (pl_neg.2 hno)).symm
      · have hd : ∀ x, hit a b c x → ¬ hit p q r x := fun x hx hy => hs ⟨hy.1.symm.trans hx.1, hy.2.1.symm.trans hx.2.1, hy.2.2.symm.trans hx.2.2⟩
        rw [pl_neg, pl_neg]
        exact ⟨fun hh2 x hx => hh2 x (List.mem_of_mem_eraseIdx hx), fun hh2 x hx hxh => hh2 x (hsub x (hd x hxh) hx) hxh⟩
      · refine held_at hg (fun x hx hm => hsub x (fun hy => ?_) hm) h1 h2
        have h3 : hit a b c ⟨p, q, r, s⟩ := ⟨hy.1.symm.trans hx.1, hy.2.1.symm.trans hx.2.1, hy.2.2.symm.trans hx.2.2⟩
        obtain ⟨rfl, rfl, rfl⟩ : p = a ∧ q = b ∧ r = c := h3
        have := pl_neg.2 hno
        omega
  | false =>
    have hc : stepv false L p q r s = closev L p q r s := by simp [stepv]
    rw [hc] at h ⊢
    by_cases hv : vb p q r s = true
    · rcases pl_spec L p q r with ⟨hp, hn⟩ | ⟨j, hj, hp, hh⟩
      · by_cases h2 : (L.length : Int) ≥ 200
        · have : closev L p q r s = ([], 9) := by unfold closev; rw [if_pos hv, if_neg (by omega), if_pos h2]
          rw [this] at h
          exact absurd h (by simp)
        · have he : closev L p q r s = (L ++ [⟨p, q, r, s⟩], 0) := by unfold closev; rw [if_pos hv, if_neg (by omega), if_neg h2]
          rw [he]
          dsimp only
          have hg : Plain.Good (L ++ [⟨p, q, r, s⟩]) := good_append hL (by omega) hv hn
          refine ⟨hg, fun hs => ?_, fun hs => ?_, fun h1 h2 => held_at hg (fun x _ hm => List.mem_append_left _ hm) h1 h2⟩
          · refine (decide_eq_false ?_).symm
            have := pl_pos.2 ⟨(⟨p, q, r, s⟩ : S28), List.mem_append_right L (List.mem_singleton.2 rfl), hs⟩
            omega
          · rw [pl_neg, pl_neg]
            refine ⟨fun h3 x hx => ?_, fun h3 x hx => h3 x (List.mem_append_left _ hx)⟩
            rcases List.mem_append.1 hx with hx | hx
            · exact h3 x hx
            · rw [List.mem_singleton.1 hx]; exact hs
      · have he : closev L p q r s = (L, 0) := by unfold closev; rw [if_pos hv, if_pos (by omega)]
        rw [he]
        dsimp only
        refine ⟨hL, fun hs => ?_, fun _ => Iff.rfl, fun _ _ => rfl⟩
        obtain ⟨rfl, rfl, rfl⟩ : p = a ∧ q = b ∧ r = c := hs
        refine (decide_eq_false ?_).symm
        omega
    · have : closev L p q r s = ([], 2) := by unfold closev; rw [if_neg hv]
      rw [this] at h
      exact absurd h (by simp)
theorem held_tail (X : List S28) (hX : Plain.Good X) (ops : List S50) (i : Nat) (hi : i ≤ 1000000) (a b c : Int) (rest : Ev (fun k => skiarealaw52_ClosureHeld.l0 k X ops ((i + 1 : Nat) : Int) a b c) true) :
    Ev (fun k => (closure_Right.f k X).bind fun t409 => (if t409 = 0 then ((closure_Of.f k X a b).bind fun t410 => ((skiarealaw52_has.f k t410 c).bind fun t413 => (if (t413 != (decide (pl X a b c ≥ 0))) = true then (none) else (skiarealaw52_ClosureHeld.l0 k X ops (wrap64 ((i : Int) + 1)) a b c)))) else (none))) true := by
  have hl : X.length ≤ 1000000 := Nat.le_trans hX.1 (by decide)
  refine ev_bind (right_ev X) (ev_if_pos (rv_zero.2 hX) (ev_bind (of_ev X hl a b) (ev_bind (has_ev _ (Nat.le_trans (ofv_len _ _ _) hl) c) (ev_if_neg ?_ ?_))))
  · have : (c ∈ ofv X a b) ↔ pl X a b c ≥ 0 := mem_ofv.trans pl_pos.symm
    simp [this]
  · rw [wrap_next (by omega)]
    exact rest
theorem held_j3 (L X : List S28) (hL : L.length ≤ 1000000) (hX : Plain.Good X) (ops : List S50) (i : Nat) (hi : i < ops.length) (hi2 : ops.length ≤ 1000000) (a b c : Int) (s : Bool)
    (h1 : s = true → (rd_T50 ops (i : Int)).f0 = decide (pl X a b c < 0)) (h2 : s = false → (pl L a b c < 0 ↔ pl X a b c < 0)) (h3 : 0 ≤ pl L a b c → 0 ≤ pl X a b c → rd_T28 L (pl L a b c) = rd_T28 X (pl X a b c))
    (rest : Ev (fun k => skiarealaw52_ClosureHeld.l0 k X ops ((i + 1 : Nat) : Int) a b c) true) : Ev (fun k => skiarealaw52_ClosureHeld.j3 k L ops (i : Int) (pl L a b c) X (pl X a b c) s a b c) true := by
  refine Ev.step (fun _ => rfl) ?_
  simp only [skiarealaw52_ClosureHeld.j3]
  have ht := held_tail X hX ops i (by omega) a b c rest
  have e1 := @pl_le L a b c
  have e2 := @pl_le X a b c
  have ho : s = true → ¬ (((rd_T50 ops (i : Int)).f0 != decide (pl X a b c < 0)) = true) := fun hs => by rw [h1 hs]; simp
  refine ev_if (fun hs => ?_) (fun hs => ?_)
  · have hop : Ev (fun k => if 0 ≤ (i : Int) then (if (i : Int) < (ops.length : Int) then (if ((rd_T50 ops (i : Int)).f0 != decide (pl X a b c < 0)) = true then none else ((closure_Right.f k X).bind fun t409 => (if t409 = 0 then ((closure_Of.f k X a b).bind fun t410 => ((skiarealaw52_has.f k t410 c).bind fun t413 => (if (t413 != (decide (pl X a b c ≥ 0))) = true then (none) else (skiarealaw52_ClosureHeld.l0 k X ops (wrap64 ((i : Int) + 1)) a b c)))) else (none)))) else none) else none) true :=
      ev_if_pos (by omega) (ev_if_pos (by omega) (ev_if_neg (ho hs) ht))
    refine ev_if (fun g1 => ev_if (fun g2 => ?_) (fun g2 => hop)) (fun g1 => hop)
    refine ev_if_pos (by omega) (ev_if_pos e1 (ev_if_pos (by omega) (ev_if_pos e2 (ev_if_neg ?_ hop))))
    rw [h3 g1 g2]
    simp
  · have hs2 : s = false := by simpa using hs
    refine ev_if_neg ?_ (ev_if (fun g1 => ev_if (fun g2 => ?_) (fun g2 => ht)) (fun g1 => ht))
    · have := h2 hs2
      by_cases h5 : pl X a b c < 0
      · simp [h5, this.2 h5]
      · have h6 : ¬ pl L a b c < 0 := fun h6 => h5 (this.1 h6)
        simp [h5, h6]
    · refine ev_if_pos (by omega) (ev_if_pos e1 (ev_if_pos (by omega) (ev_if_pos e2 (ev_if_neg ?_ ht))))
      rw [h3 g1 g2]
      simp
theorem held_j2 (o : Bool) (L : List S28) (hL : Plain.Good L) (ops : List S50) (i : Nat) (hi : i < ops.length) (hi2 : ops.length ≤ 1000000) (a b c p q r s : Int) (ho : (rd_T50 ops (i : Int)).f0 = o)
    (rest : ∀ X, Plain.Good X → Ev (fun k => skiarealaw52_ClosureHeld.l0 k X ops ((i + 1 : Nat) : Int) a b c) true) : Ev (fun k => skiarealaw52_ClosureHeld.j2 k L ops (i : Int) (pl L a b c) (stepv o L p q r s).1 (stepv o L p q r s).2 a b c p q r s) true := by
  refine Ev.step (fun _ => rfl) ?_
  simp only [skiarealaw52_ClosureHeld.j2]
  refine ev_if (fun h0 => ?_) (fun h0 => ?_)
  · obtain ⟨hX, f1, f2, f3⟩ := step_facts o L hL a b c p q r s h0
    generalize (stepv o L p q r s).1 = X at hX f1 f2 f3 ⊢
    have hl : X.length ≤ 1000000 := Nat.le_trans hX.1 (by decide)
    have hl2 : L.length ≤ 1000000 := Nat.le_trans hL.1 (by decide)
    refine ev_bind (place_ev X hl a b c) (ev_if (fun g0 => ev_if (fun g1 => ?_) (fun g1 => ?_)) (fun g0 => ?_))
    · refine held_j3 L X hl2 hX ops i hi hi2 a b c _ (fun hs => ho.trans (f1 ⟨g0, g1, by simpa using hs⟩)) (fun hs => f2 (fun hh => ?_)) f3 (rest X hX)
      have h9 : r = c := hh.2.2
      simp [h9] at hs
    · exact held_j3 L X hl2 hX ops i hi hi2 a b c false (fun hs => by cases hs) (fun _ => f2 (fun hh => g1 hh.2.1)) f3 (rest X hX)
    · exact held_j3 L X hl2 hX ops i hi hi2 a b c false (fun hs => by cases hs) (fun _ => f2 (fun hh => g0 hh.1)) f3 (rest X hX)
  · rw [step_err o L p q r s h0]
    refine ev_if_pos rfl ?_
    rw [wrap_next (by omega)]
    exact rest L hL
theorem held_l0 (ops : List S50) (hi2 : ops.length ≤ 1000000) (a b c : Int) : ∀ (d i : Nat) (L : List S28), Plain.Good L → i + d = ops.length → Ev (fun k => skiarealaw52_ClosureHeld.l0 k L ops (i : Int) a b c) true
  | 0, i, L, hL, h => by
    refine Ev.step (fun _ => rfl) ?_
    simp only [skiarealaw52_ClosureHeld.l0]
    exact ev_if_neg (by omega) (ev_some rfl)
  | d + 1, i, L, hL, h => by
    refine Ev.step (fun _ => rfl) ?_
    simp only [skiarealaw52_ClosureHeld.l0]
    have hl : L.length ≤ 1000000 := Nat.le_trans hL.1 (by decide)
    have rest := fun X hX => held_l0 ops hi2 a b c d (i + 1) X hX (by omega)
    refine ev_if_pos (by omega) (ev_if_pos (by omega) (ev_bind (place_ev L hl a b c) (ev_if (fun ho => ev_bind_some (open_eq L hl _ _ _) ?_) (fun ho => ev_bind_some (close_eq L hl _ _ _ _) ?_))))
    · have h9 := held_j2 true L hL ops i (by omega) hi2 a b c (rd_T50 ops i).f1.f0 (rd_T50 ops i).f1.f1 (rd_T50 ops i).f1.f2 (rd_T50 ops i).f1.f3 ho rest
      simpa only [stepv, if_true] using h9
    · have h9 := held_j2 false L hL ops i (by omega) hi2 a b c (rd_T50 ops i).f1.f0 (rd_T50 ops i).f1.f1 (rd_T50 ops i).f1.f2 (rd_T50 ops i).f1.f3 (by simpa using ho) rest
      simpa only [stepv, Bool.false_eq_true, if_false] using h9
theorem ClosureHeld : ∀ (l0 : List (S28)) (l1 : List (S50)) (s2 : S30), ((∀ y ∈ l0, ok28 y) ∧ l0.length * 32 ≤ 140737488351232 ∧ l0.length ≤ 9223372036854775807) → ((∀ y ∈ l1, ok50 y) ∧ l1.length * 40 ≤ 140737488351232 ∧ l1.length ≤ 9223372036854775807) → (ok30 s2) → ∃ k, skiarealaw52_ClosureHeld.f k l0 l1 (s2.f0) (s2.f1) (s2.f2) = some true := by
  intro l ops s2 _ _ _
  refine Ev.rounds (g := fun k => skiarealaw52_ClosureHeld.f k l ops (s2.f0) (s2.f1) (s2.f2)) ?_
  simp only [skiarealaw52_ClosureHeld.f]
  refine ev_bind alive_ev (ev_if_pos rfl (ev_bind (lawRight_ev l) ?_))
  by_cases h : rv l = 0
  · have hg := rv_zero.1 h
    refine ev_if_pos (by simp [h]) ?_
    refine Ev.step (fun _ => rfl) ?_
    simp only [skiarealaw52_ClosureHeld.j0]
    refine ev_if (fun _ => ev_some rfl) (fun hb => held_l0 ops ?_ _ _ _ ops.length 0 l hg (by omega))
    simp at hb
    omega
  · refine ev_if_neg (by simp [h]) ?_
    refine Ev.step (fun _ => rfl) ?_
    simp only [skiarealaw52_ClosureHeld.j0]
    exact ev_if_pos trivial (ev_some rfl)
end Go.Proofs.Ytnnnjpkmdjkdjaa.Pure
