/- What an operation on missions does, in plain words: it plans a new one, or turns one. -/
import Derived.Test.YtjlfaoaoinhebaaA0
import Derived.Test.YtjlfaoaoinhebaaA6
import Derived.Test.YtjlfaoaoinhebaaA7
import Derived.Test.YtjlfaoaoinhebaaA31
import Derived.Test.YtjlfaoaoinhebaaA33
import Derived.Test.YtjlfaoaoinhebaaPlain
namespace Go.Proofs.Ytjlfaoaoinhebaa.Plain
open Go.RowKit Go.Proofs.YtjlfaoaoinhebaaW.PrintWords Go.Proofs.Ytjlfaoaoinhebaa.A Go.Proofs.Ytjlfaoaoinhebaa.HEv
set_option linter.unusedVariables false
set_option linter.unusedSimpArgs false
theorem ev_if {α : Type} {c : Prop} [Decidable c] {g f : Nat → Option α} {r : α} (h1 : c → Ev g r) (h2 : ¬ c → Ev f r) : Ev (fun n => if c then g n else f n) r := by
  by_cases h : c
  · exact ev_if_pos h (h1 h)
  · exact ev_if_neg h (h2 h)
def newm (x : S46) : S30 := ⟨x.f1, x.f2, x.f3, 0, x.f4, ⟨x.f5, x.f6⟩⟩
def stepr (l : List S30) (x : S46) : List S30 × Int := if x.f0 = 0 then planv l (newm x) else if x.f0 = 1 then chg 1 x.f4 (cClear x.f4 x.f8) l (ix l x.f1) else if x.f0 = 2 then chg 2 x.f4 (cArm x.f3 x.f4) l (ix l x.f1) else if x.f0 = 3 then chg (if x.f7 = true then 3 else 4) x.f4 (cFire x.f3 x.f8) l (ix l x.f1) else if x.f0 = 4 then chg 5 x.f4 cEnd l (ix l x.f1) else if x.f0 = 5 then chg 6 x.f4 (cAbort x.f4) l (ix l x.f1) else ([], 1)
def dov (l : List S30) (x : S46) : List S30 × Bool := if (stepr l x).2 = 0 then ((stepr l x).1, true) else (l, false)
theorem ite_some_ {α : Type} {c : Prop} [Decidable c] (a b : α) : (if c then some a else some b) = some (if c then a else b) := by split <;> rfl
theorem do_eq (l : List S30) (hl : l.length ≤ 1000000) (x : S46) : skiarealaw51_do.f l x.f0 x.f1 x.f2 x.f3 x.f4 x.f5 x.f6 x.f7 x.f8 = some (dov l x) := by
  unfold skiarealaw51_do.f dov stepr
  have hp : blast_Plan.f l x.f1 x.f2 x.f3 0 x.f4 x.f5 x.f6 = some (planv l (newm x)) := plan_eq l hl (newm x)
  by_cases h0 : x.f0 = 0
  · rw [if_pos h0, if_pos h0, hp, Option.bind_some, ite_some_]
  rw [if_neg h0, if_neg h0]
  by_cases h1 : x.f0 = 1
  · rw [if_pos h1, if_pos h1, clear_eq l hl, Option.bind_some, ite_some_]
  rw [if_neg h1, if_neg h1]
  by_cases h2 : x.f0 = 2
  · rw [if_pos h2, if_pos h2, arm_eq l hl, Option.bind_some, ite_some_]
  rw [if_neg h2, if_neg h2]
  by_cases h3 : x.f0 = 3
  · rw [if_pos h3, if_pos h3, fire_eq l hl, Option.bind_some, ite_some_]
  rw [if_neg h3, if_neg h3]
  by_cases h4 : x.f0 = 4
  · rw [if_pos h4, if_pos h4, end_eq l hl, Option.bind_some, ite_some_]
  rw [if_neg h4, if_neg h4]
  by_cases h5 : x.f0 = 5
  · rw [if_pos h5, if_pos h5, abort_eq l hl, Option.bind_some, ite_some_]
  rw [if_neg h5, if_neg h5]
  rfl
/-- What a mission has to be for an operation to turn it, and what it becomes. -/
def Turns (x : S46) (m : S30) (st : Int) : Prop :=
  (x.f0 = 1 ∧ st = 1 ∧ m.f3 = 0 ∧ x.f8 = true ∧ m.f5.f0 ≤ x.f4 ∧ x.f4 < m.f5.f1) ∨ (x.f0 = 2 ∧ st = 2 ∧ m.f3 = 1 ∧ x.f3 = m.f2 ∧ m.f5.f0 ≤ x.f4 ∧ x.f4 < m.f5.f1) ∨
  (x.f0 = 3 ∧ (st = 3 ∨ st = 4) ∧ m.f3 = 2 ∧ x.f3 = m.f2 ∧ x.f8 = true) ∨ (x.f0 = 4 ∧ st = 5 ∧ m.f3 = 3) ∨
  (x.f0 = 5 ∧ st = 6 ∧ m.f3 ≠ 3 ∧ ov m.f3 = true ∧ ¬ (m.f3 = 4 ∧ x.f4 < wrap64 (m.f4 + 1800)))
def Turned (l : List S30) (x : S46) (l' : List S30) : Prop := ∃ j : Nat, ∃ hj : j < l.length, ∃ st : Int, ix l x.f1 = (j : Int) ∧ l[j].f0 = x.f1 ∧ l[j].f4 ≤ x.f4 ∧ x.f4 ≤ 20000000 ∧ l' = l.set j (tox st x.f4 l[j]) ∧ Turns x l[j] st
def Planned (l : List S30) (x : S46) (l' : List S30) : Prop := x.f0 = 0 ∧ l' = l ++ [newm x] ∧ Good l'
theorem chg_zero {st t : Int} {cv : S30 → Int} {l : List S30} {id : Int} (h : (chg st t cv l (ix l id)).2 = 0) : ∃ j : Nat, ∃ hj : j < l.length, ix l id = (j : Int) ∧ l[j].f0 = id ∧ l[j].f4 ≤ t ∧ t ≤ 20000000 ∧ cv l[j] = 0 ∧ (chg st t cv l (ix l id)).1 = l.set j (tox st t l[j]) := by
  rcases common_cases l id t with ⟨_, hg⟩ | ⟨_, hg⟩ | ⟨j, hj, h1, h2, h3, h4, _, hg⟩
  · rw [hg] at h; exact absurd h (by simp)
  · rw [hg] at h; exact absurd h (by simp)
  · rw [hg] at h ⊢
    by_cases hc : cv l[j] = 0
    · rw [if_neg (by simpa using hc)]
      exact ⟨j, hj, h1, h2, h3, h4, hc, rfl⟩
    · rw [if_pos hc] at h
      exact absurd h hc
theorem cClear_zero {t : Int} {em : Bool} {m : S30} (h : cClear t em m = 0) : m.f3 = 0 ∧ em = true ∧ m.f5.f0 ≤ t ∧ t < m.f5.f1 := by
  unfold cClear at h
  repeat' split at h
  all_goals simp_all
theorem cArm_zero {b t : Int} {m : S30} (h : cArm b t m = 0) : m.f3 = 1 ∧ b = m.f2 ∧ m.f5.f0 ≤ t ∧ t < m.f5.f1 := by
  unfold cArm at h
  repeat' split at h
  all_goals simp_all
theorem cFire_zero {b : Int} {em : Bool} {m : S30} (h : cFire b em m = 0) : m.f3 = 2 ∧ b = m.f2 ∧ em = true := by
  unfold cFire at h
  repeat' split at h
  all_goals simp_all
theorem cEnd_zero {m : S30} (h : cEnd m = 0) : m.f3 = 3 := by
  unfold cEnd at h
  split at h
  · assumption
  · simp at h
theorem cAbort_zero {t : Int} {m : S30} (h : cAbort t m = 0) : m.f3 ≠ 3 ∧ ov m.f3 = true ∧ ¬ (m.f3 = 4 ∧ t < wrap64 (m.f4 + 1800)) := by
  unfold cAbort at h
  by_cases h1 : m.f3 = 3 ∨ ov m.f3 = false
  · rw [if_pos h1] at h
    exact absurd h (by simp)
  · rw [if_neg h1] at h
    by_cases h2 : m.f3 = 4 ∧ t < wrap64 (m.f4 + 1800)
    · rw [if_pos h2] at h
      exact absurd h (by simp)
    · exact ⟨fun h3 => h1 (.inl h3), by simpa using fun h3 => h1 (.inr h3), h2⟩
theorem do_spec {l : List S30} {x : S46} (h : (dov l x).2 = true) : Planned l x (dov l x).1 ∨ Turned l x (dov l x).1 := by
  unfold dov at h ⊢
  by_cases hz : (stepr l x).2 = 0
  rotate_left
  · rw [if_neg hz] at h
    exact absurd h (by simp)
  rw [if_pos hz]
  clear h
  show Planned l x (stepr l x).1 ∨ Turned l x (stepr l x).1
  unfold stepr at hz ⊢
  by_cases h0 : x.f0 = 0
  · rw [if_pos h0] at hz ⊢
    refine .inl ⟨h0, ?_⟩
    unfold planv at hz ⊢
    rw [if_pos (show (newm x).f3 = 0 from rfl)] at hz ⊢
    by_cases hr : rv (l ++ [newm x]) = 0
    · rw [if_pos hr]
      exact ⟨rfl, rv_zero.1 hr⟩
    · rw [if_neg hr] at hz
      exact absurd hz hr
  rw [if_neg h0] at hz ⊢
  refine .inr ?_
  by_cases h1 : x.f0 = 1
  · rw [if_pos h1] at hz ⊢
    obtain ⟨j, hj, g1, g2, g3, g4, g5, g6⟩ := chg_zero hz
    obtain ⟨k1, k2, k3, k4⟩ := cClear_zero g5
    exact ⟨j, hj, _, g1, g2, g3, g4, g6, .inl ⟨h1, rfl, k1, k2, k3, k4⟩⟩
  rw [if_neg h1] at hz ⊢
  by_cases h2 : x.f0 = 2
  · rw [if_pos h2] at hz ⊢
    obtain ⟨j, hj, g1, g2, g3, g4, g5, g6⟩ := chg_zero hz
    obtain ⟨k1, k2, k3, k4⟩ := cArm_zero g5
    exact ⟨j, hj, _, g1, g2, g3, g4, g6, .inr (.inl ⟨h2, rfl, k1, k2, k3, k4⟩)⟩
  rw [if_neg h2] at hz ⊢
  by_cases h3 : x.f0 = 3
  · rw [if_pos h3] at hz ⊢
    obtain ⟨j, hj, g1, g2, g3, g4, g5, g6⟩ := chg_zero hz
    obtain ⟨k1, k2, k3⟩ := cFire_zero g5
    exact ⟨j, hj, _, g1, g2, g3, g4, g6, .inr (.inr (.inl ⟨h3, by cases x.f7 <;> simp, k1, k2, k3⟩))⟩
  rw [if_neg h3] at hz ⊢
  by_cases h4 : x.f0 = 4
  · rw [if_pos h4] at hz ⊢
    obtain ⟨j, hj, g1, g2, g3, g4, g5, g6⟩ := chg_zero hz
    exact ⟨j, hj, _, g1, g2, g3, g4, g6, .inr (.inr (.inr (.inl ⟨h4, rfl, cEnd_zero g5⟩)))⟩
  rw [if_neg h4] at hz ⊢
  by_cases h5 : x.f0 = 5
  · rw [if_pos h5] at hz ⊢
    obtain ⟨j, hj, g1, g2, g3, g4, g5, g6⟩ := chg_zero hz
    obtain ⟨k1, k2, k3⟩ := cAbort_zero g5
    exact ⟨j, hj, _, g1, g2, g3, g4, g6, .inr (.inr (.inr (.inr ⟨h5, rfl, k1, k2, k3⟩)))⟩
  rw [if_neg h5] at hz
  exact absurd hz (by simp)
theorem turns_open {x : S46} {m : S30} {st : Int} (h : Turns x m st) : ov m.f3 = true ∧ 1 ≤ st ∧ st ≤ 6 := by
  have := ov_iff m.f3
  rcases h with h | h | h | h | h
  · exact ⟨this.2 (by omega), by omega, by omega⟩
  · exact ⟨this.2 (by omega), by omega, by omega⟩
  · exact ⟨this.2 (by omega), by omega, by omega⟩
  · exact ⟨this.2 (by omega), by omega, by omega⟩
  · exact ⟨h.2.2.2.1, by omega, by omega⟩
theorem good_set {l : List S30} (h : Good l) {j : Nat} (hj : j < l.length) {st t : Int} (ho : ov l[j].f3 = true) (hs : 1 ≤ st ∧ st ≤ 6) (h4 : l[j].f4 ≤ t) (ht : t ≤ 20000000) : Good (l.set j (tox st t l[j])) := by
  obtain ⟨h0, h1, h2, h3⟩ := h
  have hm := (fv_iff _).1 (h1 _ (List.getElem_mem hj))
  have hget : ∀ q (hq : q < (l.set j (tox st t l[j])).length) (hq2 : q < l.length), (l.set j (tox st t l[j]))[q].f0 = l[q].f0 ∧ (l.set j (tox st t l[j]))[q].f1 = l[q].f1 ∧ (ov (l.set j (tox st t l[j]))[q].f3 = true → ov l[q].f3 = true) := by
    intro q hq hq2
    rw [List.getElem_set]
    split
    · rename_i e
      subst e
      exact ⟨rfl, rfl, fun _ => ho⟩
    · exact ⟨rfl, rfl, fun h => h⟩
  refine ⟨by rw [List.length_set]; exact h0, fun x hx => ?_, List.pairwise_iff_getElem.2 fun a b ha hb hab => ?_, List.pairwise_iff_getElem.2 fun a b ha hb hab => ?_⟩
  · rcases List.mem_or_eq_of_mem_set hx with hx | rfl
    · exact h1 x hx
    · refine (fv_iff _).2 ⟨hm.1, hm.2.1, hm.2.2.1, ⟨?_, ?_⟩, ⟨?_, ht⟩, hm.2.2.2.2.2⟩
      · show 0 ≤ st; omega
      · show st ≤ 6; omega
      · show 0 ≤ t; omega
  · have ha2 : a < l.length := by rw [List.length_set] at ha; exact ha
    have hb2 : b < l.length := by rw [List.length_set] at hb; exact hb
    rw [(hget a ha ha2).1, (hget b hb hb2).1]
    exact List.pairwise_iff_getElem.1 h2 a b ha2 hb2 hab
  · have ha2 : a < l.length := by rw [List.length_set] at ha; exact ha
    have hb2 : b < l.length := by rw [List.length_set] at hb; exact hb
    rw [(hget a ha ha2).2.1, (hget b hb hb2).2.1]
    exact fun o1 o2 => List.pairwise_iff_getElem.1 h3 a b ha2 hb2 hab ((hget a ha ha2).2.2 o1) ((hget b hb hb2).2.2 o2)
theorem do_good {l : List S30} (hl : Good l) {x : S46} (h : (dov l x).2 = true) : Good (dov l x).1 := by
  rcases do_spec h with ⟨_, _, hg⟩ | ⟨j, hj, st, _, _, h4, h5, he, ht⟩
  · exact hg
  · rw [he]
    obtain ⟨k1, k2⟩ := turns_open ht
    exact good_set hl hj k1 k2 h4 h5
end Go.Proofs.Ytjlfaoaoinhebaa.Plain
