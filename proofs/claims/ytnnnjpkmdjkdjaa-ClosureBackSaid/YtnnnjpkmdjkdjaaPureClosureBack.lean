/- The plain law ClosureBack. -/
import Derived.Test.YtnnnjpkmdjkdjaaA0
import Derived.Test.YtnnnjpkmdjkdjaaA26
import Derived.Test.YtnnnjpkmdjkdjaaPlainMap
namespace Go.Proofs.Ytnnnjpkmdjkdjaa.Pure
open Go.RowKit Go.Proofs.YtnnnjpkmdjkdjaaW.PrintWords Go.Proofs.Ytnnnjpkmdjkdjaa.A Go.Proofs.Ytnnnjpkmdjkdjaa.HEv Go.Proofs.Ytnnnjpkmdjkdjaa.Plain
set_option linter.unusedVariables false
set_option linter.unusedSimpArgs false
theorem rd_last (y : List S28) (p : S28) : rd_T28 (y ++ [p]) (y.length : Int) = p := by
  rw [rd_at _ _ (by simp)]
  simp
theorem back_j1 (l x y : List S28) (p : S28) (was : Bool) (hl : l.length ≤ 1000000) (hy : y.length ≤ 200) (hx : x.length = y.length + 1) (hw : (was = true ∧ x = l) ∨ (was = false ∧ y = l ∧ x = y ++ [p])) :
    Ev (fun k => skiarealaw52_ClosureBack.j1 k l was x y (y ++ [p]) false) true := by
  refine Ev.step (fun _ => rfl) ?_
  simp only [skiarealaw52_ClosureBack.j1]
  refine ev_if_neg (by simp) ?_
  rcases hw with ⟨rfl, rfl⟩ | ⟨rfl, rfl, rfl⟩
  · refine ev_if_pos rfl (ev_bind (same_refl x hl) (ev_if_pos rfl (ev_if_pos ?_ (ev_some rfl))))
    rw [HEv.wrap_small (by omega) (by omega)]
    omega
  · exact ev_if_neg (by simp) (ev_bind (same_refl y hl) (ev_if_pos rfl (ev_bind (same_refl (y ++ [p]) (by simp; omega)) (ev_some rfl))))
theorem back_j0 (l x y : List S28) (a b c e : Int) (was : Bool) (hv : vb a b c e = true) (hl : l.length ≤ 1000000) (hy : y.length < 200) (hn : ∀ z ∈ y, ¬ hit a b c z) (hx : x.length = y.length + 1) (hw : (was = true ∧ x = l) ∨ (was = false ∧ y = l ∧ x = y ++ [⟨a, b, c, e⟩])) :
    Ev (fun k => skiarealaw52_ClosureBack.j0 k l was x y false a b c e) true := by
  refine Ev.step (fun _ => rfl) ?_
  simp only [skiarealaw52_ClosureBack.j0]
  have hc : closev y a b c e = (y ++ [⟨a, b, c, e⟩], 0) := by
    unfold closev
    rw [if_pos hv, if_neg (by have := pl_neg.2 hn; omega), if_neg (by omega)]
  refine ev_if_neg (by simp) (ev_bind_some (close_eq y (by omega) a b c e) ?_)
  rw [hc]
  have hlen : ((y ++ [(⟨a, b, c, e⟩ : S28)]).length : Int) = (y.length : Int) + 1 := by simp
  have hwr : wrap64 ((y.length : Int) + 1 - 1) = (y.length : Int) := by rw [HEv.wrap_small (by omega) (by omega)]; omega
  simp only [hlen, hwr, rd_last]
  refine ev_if_pos (by simp) (ev_if_pos (by omega) (ev_if_pos (by omega) (ev_if_pos (by omega) ?_)))
  rw [show (!(a == a) || (!(b == b) || (!(c == c) || !(e == e)))) = false by simp]
  exact back_j1 l x y ⟨a, b, c, e⟩ was hl (by omega) hx hw
theorem ClosureBack : ∀ (l0 : List (S28)) (s1 : S28), ((∀ y ∈ l0, ok28 y) ∧ l0.length * 32 ≤ 140737488351232 ∧ l0.length ≤ 9223372036854775807) → (ok28 s1) → ∃ k, skiarealaw52_ClosureBack.f k l0 (s1.f0) (s1.f1) (s1.f2) (s1.f3) = some true := by
  intro l s1 _ _
  refine Ev.rounds (g := fun k => skiarealaw52_ClosureBack.f k l (s1.f0) (s1.f1) (s1.f2) (s1.f3)) ?_
  obtain ⟨a, b, c, e⟩ := s1
  simp only [skiarealaw52_ClosureBack.f]
  refine ev_bind alive_ev (ev_if_pos rfl (ev_bind (lawRight_ev l) ?_))
  by_cases h : rv l = 0
  · have hg := rv_zero.1 h
    have hl : l.length ≤ 1000000 := Nat.le_trans hg.1 (by decide)
    refine ev_if_pos (by simp [h]) (ev_bind (place_ev l hl a b c) (ev_bind_some (close_eq l hl a b c e) ?_))
    by_cases hv : vb a b c e = true
    · rcases pl_spec l a b c with ⟨hp, hn⟩ | ⟨j, hj, hp, hh⟩
      · by_cases h2 : (l.length : Int) ≥ 200
        · have hc : closev l a b c e = ([], 9) := by unfold closev; rw [if_pos hv, if_neg (by omega), if_pos h2]
          rw [hc]
          exact ev_if_neg (by simp) (ev_if_neg (by omega) (ev_some rfl))
        · have hc : closev l a b c e = (l ++ [⟨a, b, c, e⟩], 0) := by unfold closev; rw [if_pos hv, if_neg (by omega), if_neg h2]
          rw [hc]
          have hh : hit a b c (⟨a, b, c, e⟩ : S28) := ⟨rfl, rfl, rfl⟩
          have hl1 : (l ++ [(⟨a, b, c, e⟩ : S28)]).length ≤ 1000000 := by simp; omega
          have hp1 : pl (l ++ [⟨a, b, c, e⟩]) a b c = (l.length : Int) := by
            rcases pl_spec (l ++ [(⟨a, b, c, e⟩ : S28)]) a b c with ⟨_, h3⟩ | ⟨i, hi, h3, h4⟩
            · exact absurd hh (h3 _ (by simp))
            · rcases Nat.lt_or_ge i l.length with h5 | h5
              · rw [List.getElem_append_left h5] at h4
                exact absurd h4 (hn _ (List.getElem_mem h5))
              · simp at hi
                omega
          have ho : openv (l ++ [⟨a, b, c, e⟩]) a b c = (l, 0) := by
            unfold openv
            rw [hp1, if_neg (by omega), Int.toNat_natCast, List.eraseIdx_append_of_length_le (Nat.le_refl _)]
            simp
          refine ev_if_pos rfl (ev_bind_some (open_eq _ hl1 a b c) ?_)
          rw [ho]
          refine ev_if_pos rfl (ev_bind (of_ev _ hl1 a b) (ev_bind (has_ev _ (Nat.le_trans (ofv_len _ _ _) hl1) c) (ev_if_pos (decide_eq_true (mem_ofv.2 ⟨⟨a, b, c, e⟩, by simp, hh⟩)) (ev_bind (of_ev l hl a b) (ev_bind (has_ev _ (Nat.le_trans (ofv_len _ _ _) hl) c) ?_)))))
          rw [decide_eq_false (p := c ∈ ofv l a b) (fun hm => by obtain ⟨x, hx, hxh⟩ := mem_ofv.1 hm; exact hn x hx hxh)]
          exact back_j0 l _ l a b c e _ hv hl (by omega) hn (by simp) (.inr ⟨decide_eq_false (by omega), rfl, rfl⟩)
      · have hc : closev l a b c e = (l, 0) := by unfold closev; rw [if_pos hv, if_pos (by omega)]
        rw [hc]
        have ho : openv l a b c = (l.eraseIdx j, 0) := by
          unfold openv
          rw [hp, if_neg (by omega), Int.toNat_natCast]
        have hel : (l.eraseIdx j).length = l.length - 1 := List.length_eraseIdx_of_lt hj
        have hel2 : (l.eraseIdx j).length ≤ 1000000 := by omega
        have hn : ∀ z ∈ l.eraseIdx j, ¬ hit a b c z := by
          intro z hz hzh
          obtain ⟨i, hi, hne, rfl⟩ := List.mem_eraseIdx_iff_getElem.1 hz
          exact hne (good_uniq hg hi hj hzh hh)
        refine ev_if_pos rfl (ev_bind_some (open_eq _ hl a b c) ?_)
        rw [ho]
        refine ev_if_pos rfl (ev_bind (of_ev _ hl a b) (ev_bind (has_ev _ (Nat.le_trans (ofv_len _ _ _) hl) c) (ev_if_pos (decide_eq_true (mem_ofv.2 ⟨_, List.getElem_mem hj, hh⟩)) (ev_bind (of_ev _ hel2 a b) (ev_bind (has_ev _ (Nat.le_trans (ofv_len _ _ _) hel2) c) ?_)))))
        rw [decide_eq_false (p := c ∈ ofv (l.eraseIdx j) a b) (fun hm => by obtain ⟨x, hx, hxh⟩ := mem_ofv.1 hm; exact hn x hx hxh)]
        exact back_j0 l l (l.eraseIdx j) a b c e _ hv hl (by have := hg.1; omega) hn (by omega) (.inl ⟨decide_eq_true (by omega), rfl⟩)
    · have hc : closev l a b c e = ([], 2) := by unfold closev; rw [if_neg hv]
      rw [hc]
      refine ev_if_neg (by simp) ?_
      by_cases hw : pl l a b c ≥ 0
      · exact ev_if_pos hw (ev_some rfl)
      · exact ev_if_neg hw (ev_some rfl)
  · exact ev_if_neg (by simp [h]) (ev_some rfl)
end Go.Proofs.Ytnnnjpkmdjkdjaa.Pure
