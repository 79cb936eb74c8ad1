/- The missions' plain laws: what the program's and the reference's functions answer. -/
import Derived.Test.YtjlfaoaoinhebaaA0
import Derived.Test.YtjlfaoaoinhebaaA3
import Derived.Test.YtjlfaoaoinhebaaA4
import Derived.Test.YtjlfaoaoinhebaaA5
import Derived.Test.YtjlfaoaoinhebaaA6
import Derived.Test.YtjlfaoaoinhebaaA7
import Derived.Test.YtjlfaoaoinhebaaA8
import Derived.Test.YtjlfaoaoinhebaaA9
import Derived.Test.YtjlfaoaoinhebaaA10
import Derived.Test.YtjlfaoaoinhebaaA11
import Derived.Test.YtjlfaoaoinhebaaA12
import Derived.Test.YtjlfaoaoinhebaaA13
import Derived.Test.YtjlfaoaoinhebaaA14
import Derived.Test.YtjlfaoaoinhebaaA15
import Derived.Test.YtjlfaoaoinhebaaA17
import Derived.Test.YtjlfaoaoinhebaaA18
import Derived.Test.YtjlfaoaoinhebaaA19
import Derived.Test.YtjlfaoaoinhebaaA21
import Derived.Test.YtjlfaoaoinhebaaA23
import Derived.Test.YtjlfaoaoinhebaaA27
import Derived.Test.YtjlfaoaoinhebaaA28
import Derived.Test.YtjlfaoaoinhebaaA29
import Derived.Test.YtjlfaoaoinhebaaAR
import Derived.Test.YtjlfaoaoinhebaaHEv
import Derived.KernelRfl
namespace Go.Proofs.Ytjlfaoaoinhebaa.Plain
open Go.RowKit Go.Proofs.YtjlfaoaoinhebaaW.PrintWords Go.Proofs.Ytjlfaoaoinhebaa.A Go.Proofs.Ytjlfaoaoinhebaa.HEv
set_option linter.unusedVariables false
set_option linter.unusedSimpArgs false

theorem rd_at (l : List S30) (i : Nat) (h : i < l.length) : rd_T30 l (i : Int) = l[i] := by simp [rd_T30, h]
theorem sameInts_ev (l : List Int) (hl : l.length ≤ 1000000) : ∀ (d i : Nat), i + d = l.length → Ev (fun k => skiarearef51_SameInts.l0 k l l (i : Int)) true
  | 0, i, h => by
    refine Ev.step (fun _ => rfl) ?_
    simp only [skiarearef51_SameInts.l0]
    exact ev_if_neg (by omega) (ev_some rfl)
  | d + 1, i, h => by
    refine Ev.step (fun _ => rfl) ?_
    simp only [skiarearef51_SameInts.l0]
    refine ev_if_pos (by omega) (ev_if_pos (by omega) (ev_if_pos (by omega) (ev_if_pos (by trivial) ?_)))
    rw [wrap_next (by omega)]
    exact sameInts_ev l hl d (i + 1) (by omega)
theorem sameInts_refl (l : List Int) (hl : l.length ≤ 1000000) : Ev (fun k => skiarearef51_SameInts.f k l l) true := by
  unfold skiarearef51_SameInts.f
  exact ev_if_pos rfl (sameInts_ev l hl l.length 0 (by omega))

theorem idx_eq (p : S30 → Bool) : ∀ (xs : List S30) (i : Nat), blast_Right.idx p i xs = blast_Clear.idx p i xs
  | [], _ => rfl
  | x :: xs, i => by
    simp only [blast_Right.idx, blast_Clear.idx]
    rw [idx_eq p xs (i + 1)]
theorem idx_spec (p : S30 → Bool) : ∀ (xs : List S30) (i : Nat), (blast_Clear.idx p i xs = -1 ∧ ∀ x ∈ xs, p x = false) ∨ ∃ j, ∃ h : j < xs.length, blast_Clear.idx p i xs = ((i + j : Nat) : Int) ∧ p xs[j] = true ∧ ∀ q, ∀ hq : q < xs.length, q < j → p xs[q] = false
  | [], i => .inl ⟨rfl, by simp⟩
  | x :: xs, i => by
    simp only [blast_Clear.idx]
    by_cases h : p x = true
    · rw [if_pos h]
      exact .inr ⟨0, by simp, by simp, by simpa using h, fun q _ hq => absurd hq (by omega)⟩
    · rw [if_neg h]
      rcases idx_spec p xs (i + 1) with ⟨h1, h2⟩ | ⟨j, hj, h1, h2, h3⟩
      · exact .inl ⟨h1, fun y hy => by rcases List.mem_cons.1 hy with rfl | hy; exact Bool.eq_false_iff.2 h; exact h2 y hy⟩
      · refine .inr ⟨j + 1, by simp; omega, by rw [h1]; congr 1; omega, by simpa using h2, fun q hq hlt => ?_⟩
        rcases q with _ | q
        · exact Bool.eq_false_iff.2 h
        · simpa using h3 q (by simpa using hq) (by omega)
theorem idx_nonneg {p : S30 → Bool} {xs : List S30} : 0 ≤ blast_Clear.idx p 0 xs ↔ ∃ x ∈ xs, p x = true := by
  rcases idx_spec p xs 0 with ⟨h1, h2⟩ | ⟨j, hj, h1, h2, _⟩
  · exact ⟨fun h => by omega, fun ⟨x, hx, hp⟩ => by rw [h2 x hx] at hp; cases hp⟩
  · exact ⟨fun _ => ⟨_, List.getElem_mem hj, h2⟩, fun _ => by omega⟩
/-- The place of a mission's number. -/
def ix (l : List S30) (id : Int) : Int := blast_Clear.idx (blast_Clear.pr id) 0 l
theorem ix_spec (l : List S30) (id : Int) : (ix l id = -1 ∧ ∀ x ∈ l, x.f0 ≠ id) ∨ ∃ j : Nat, ∃ h : j < l.length, ix l id = (j : Int) ∧ l[j].f0 = id := by
  rcases idx_spec (blast_Clear.pr id) l 0 with ⟨h1, h2⟩ | ⟨j, hj, h1, h2, _⟩
  · exact .inl ⟨h1, fun x hx => by simpa [blast_Clear.pr] using h2 x hx⟩
  · exact .inr ⟨j, hj, by rw [ix, h1, Nat.zero_add], by simpa [blast_Clear.pr] using h2⟩
theorem ix_nonneg {l : List S30} {id : Int} : 0 ≤ ix l id ↔ ∃ x ∈ l, x.f0 = id := by
  rw [ix, idx_nonneg]
  simp [blast_Clear.pr]
abbrev ov (a : Int) : Bool := blast_Right.ov a
theorem ov_iff (a : Int) : ov a = true ↔ 0 ≤ a ∧ a ≤ 4 := by simp [ov, blast_Right.ov]
theorem open_eq (a0 a1 a2 a3 a4 a5 a6 : Int) : blast_open.f a0 a1 a2 a3 a4 a5 a6 = some (ov a3) := blast_Right.open_eq _ _ _ _ _ _ _
def prs (s : Int) (x : S30) : Bool := ov x.f3 && x.f1 == s
theorem prb_eq (a0 a1 a2 a3 a4 a5 a6 : Int) : blast_Right.prb a0 a1 a2 a3 a4 a5 a6 = prs a1 := rfl
theorem pr_eq (a0 a1 a2 a3 a4 a5 a6 : Int) : blast_Right.pr a0 a1 a2 a3 a4 a5 a6 = blast_Clear.pr a0 := rfl
abbrev fv (x : S30) : Bool := blast_Right.fv x
theorem fv_iff (x : S30) : fv x = true ↔ ((1 ≤ x.f0 ∧ x.f0 ≤ 9999) ∧ (1 ≤ x.f1 ∧ x.f1 ≤ 9999) ∧ (1 ≤ x.f2 ∧ x.f2 ≤ 9999) ∧ (0 ≤ x.f3 ∧ x.f3 ≤ 6) ∧ (0 ≤ x.f4 ∧ x.f4 ≤ 20000000) ∧ 0 ≤ x.f5.f0 ∧ x.f5.f0 < x.f5.f1 ∧ x.f5.f1 ≤ 20000000) := by
  have w1 : wrap64 (0 + 1) = 1 := by decide +kernel
  have w2 : wrap64 (1 + 1) = 2 := by decide +kernel
  have w3 : wrap64 (2 + 1) = 3 := by decide +kernel
  unfold fv blast_Right.fv
  simp only [blast_fields.f, blast_fields.l0, Option.bind_some, List.length_cons, List.length_nil, w1, w2, w3]
  simp [rd]
  by_cases n0 : x.f0 < 1
  · rw [if_pos n0]
    exact ⟨fun h => (by cases h), fun h => by omega⟩
  rw [if_neg n0]
  by_cases n1 : 9999 < x.f0
  · rw [if_pos n1]
    exact ⟨fun h => (by cases h), fun h => by omega⟩
  rw [if_neg n1]
  by_cases n2 : x.f1 < 1
  · rw [if_pos n2]
    exact ⟨fun h => (by cases h), fun h => by omega⟩
  rw [if_neg n2]
  by_cases n3 : 9999 < x.f1
  · rw [if_pos n3]
    exact ⟨fun h => (by cases h), fun h => by omega⟩
  rw [if_neg n3]
  by_cases n4 : x.f2 < 1
  · rw [if_pos n4]
    exact ⟨fun h => (by cases h), fun h => by omega⟩
  rw [if_neg n4]
  by_cases n5 : 9999 < x.f2
  · rw [if_pos n5]
    exact ⟨fun h => (by cases h), fun h => by omega⟩
  rw [if_neg n5]
  by_cases p0 : 0 ≤ x.f3
  rotate_left
  · rw [if_neg p0]
    exact ⟨fun h => (by cases h), fun h => by omega⟩
  rw [if_pos p0]
  by_cases p1 : x.f3 ≤ 6
  rotate_left
  · rw [if_neg p1]
    exact ⟨fun h => (by cases h), fun h => by omega⟩
  rw [if_pos p1]
  by_cases p2 : 0 ≤ x.f4
  rotate_left
  · rw [if_neg p2]
    exact ⟨fun h => (by cases h), fun h => by omega⟩
  rw [if_pos p2]
  by_cases p3 : x.f4 ≤ 20000000
  rotate_left
  · rw [if_neg p3]
    exact ⟨fun h => (by cases h), fun h => by omega⟩
  rw [if_pos p3]
  by_cases p4 : 0 ≤ x.f5.f0
  rotate_left
  · rw [if_neg p4]
    exact ⟨fun h => (by cases h), fun h => by omega⟩
  rw [if_pos p4]
  by_cases p5 : x.f5.f0 < x.f5.f1
  rotate_left
  · rw [if_neg p5]
    exact ⟨fun h => (by cases h), fun h => by omega⟩
  rw [if_pos p5]
  rw [Option.getD_some, decide_eq_true_iff]
  omega
def rv (l : List S30) : Int := if 64 < l.length then 4 else blast_Right.go l l.length 0
theorem right_eq (l : List S30) : blast_Right.f l = some (rv l) := rfl
def atv (l : List S30) (i : Nat) (x : S30) : Option Int := if fv x = true then (if 0 ≤ ix (l.take i) x.f0 then some 7 else if ov x.f3 = true ∧ 0 ≤ blast_Clear.idx (prs x.f1) 0 (l.take i) then some 15 else none) else some 2
theorem at_eq (l : List S30) (i : Nat) (x : S30) : blast_Right.at l i x = atv l i x := by
  unfold blast_Right.at atv
  rw [pr_eq, prb_eq, idx_eq, idx_eq]
  rfl
/-- What a right list is. -/
def Good (l : List S30) : Prop := l.length ≤ 64 ∧ (∀ x ∈ l, fv x = true) ∧ (l.Pairwise fun x y => x.f0 ≠ y.f0) ∧ l.Pairwise fun x y => ov x.f3 = true → ov y.f3 = true → x.f1 ≠ y.f1
theorem go_zero (l : List S30) : ∀ (d i : Nat), i + d = l.length → (blast_Right.go l d i = 0 ↔ ∀ j, ∀ h : j < l.length, i ≤ j → atv l j l[j] = none)
  | 0, i, h => by
    simp only [blast_Right.go, true_iff]
    intro j hj hij
    omega
  | d + 1, i, h => by
    have hi : i < l.length := by omega
    simp only [blast_Right.go, rd_at l i hi, at_eq]
    have ih := go_zero l d (i + 1) (by omega)
    cases ha : atv l i l[i] with
    | none =>
      simp only [ih]
      constructor
      · intro hh j hj hij
        rcases Nat.lt_or_ge i j with h1 | h1
        · exact hh j hj h1
        · obtain rfl : j = i := by omega
          exact ha
      · exact fun hh j hj hij => hh j hj (by omega)
    | some e =>
      simp only
      constructor
      · intro h0
        exfalso
        subst h0
        unfold atv at ha
        repeat' split at ha
        all_goals simp at ha
      · intro hh
        rw [hh i hi (Nat.le_refl _)] at ha
        cases ha
theorem at_none (l : List S30) (i : Nat) (hi : i < l.length) : atv l i l[i] = none ↔ fv l[i] = true ∧ ∀ q, ∀ hq : q < l.length, q < i → l[q].f0 ≠ l[i].f0 ∧ (ov l[q].f3 = true → ov l[i].f3 = true → l[q].f1 ≠ l[i].f1) := by
  have mem : ∀ (P : S30 → Prop), (∃ x ∈ l.take i, P x) ↔ ∃ q, ∃ hq : q < l.length, q < i ∧ P l[q] := by
    intro P
    constructor
    · rintro ⟨x, hx, hP⟩
      obtain ⟨q, hq, rfl⟩ := List.getElem_of_mem hx
      rw [List.length_take] at hq
      exact ⟨q, by omega, by omega, by simpa using hP⟩
    · rintro ⟨q, hq, hqi, hP⟩
      exact ⟨l[q], List.mem_take_iff_getElem.2 ⟨q, by omega, rfl⟩, hP⟩
  have m7 : 0 ≤ ix (l.take i) l[i].f0 ↔ _ := ix_nonneg.trans (mem _)
  have m15 : 0 ≤ blast_Clear.idx (prs l[i].f1) 0 (l.take i) ↔ _ := idx_nonneg.trans (mem _)
  unfold atv
  by_cases hf : fv l[i] = true
  · rw [if_pos hf]
    by_cases h7 : ∃ q, ∃ hq : q < l.length, q < i ∧ l[q].f0 = l[i].f0
    · rw [if_pos (m7.2 h7)]
      obtain ⟨q, hq, hqi, he⟩ := h7
      exact ⟨fun h => (by cases h), fun h => absurd he (h.2 q hq hqi).1⟩
    · rw [if_neg (fun h => h7 (m7.1 h))]
      by_cases h15 : ov l[i].f3 = true ∧ ∃ q, ∃ hq : q < l.length, q < i ∧ prs l[i].f1 l[q] = true
      · rw [if_pos ⟨h15.1, m15.2 h15.2⟩]
        obtain ⟨ho, q, hq, hqi, he⟩ := h15
        simp only [prs, Bool.and_eq_true, beq_iff_eq] at he
        exact ⟨fun h => (by cases h), fun h => absurd he.2 ((h.2 q hq hqi).2 he.1 ho)⟩
      · rw [if_neg (fun h => h15 ⟨h.1, m15.1 h.2⟩)]
        refine ⟨fun _ => ⟨hf, fun q hq hqi => ⟨fun he => h7 ⟨q, hq, hqi, he⟩, fun h1 h2 h3 => h15 ⟨h2, q, hq, hqi, by simp [prs, h1, h3]⟩⟩⟩, fun _ => rfl⟩
  · rw [if_neg hf]
    exact ⟨fun h => (by cases h), fun h => absurd h.1 hf⟩
theorem rv_zero {l : List S30} : rv l = 0 ↔ Good l := by
  unfold rv Good
  by_cases h : 64 < l.length
  · rw [if_pos h]
    exact ⟨fun h0 => absurd h0 (by decide), fun h0 => absurd h0.1 (by omega)⟩
  · rw [if_neg h, go_zero l l.length 0 (by omega)]
    constructor
    · intro hh
      refine ⟨by omega, fun x hx => ?_, List.pairwise_iff_getElem.2 fun i j hi hj hij => ?_, List.pairwise_iff_getElem.2 fun i j hi hj hij => ?_⟩
      · obtain ⟨j, hj, rfl⟩ := List.getElem_of_mem hx
        exact ((at_none l j hj).1 (hh j hj (by omega))).1
      · exact (((at_none l j hj).1 (hh j hj (by omega))).2 i hi hij).1
      · exact (((at_none l j hj).1 (hh j hj (by omega))).2 i hi hij).2
    · intro ⟨_, h1, h2, h3⟩ j hj _
      exact (at_none l j hj).2 ⟨h1 _ (List.getElem_mem hj), fun q hq hqi => ⟨List.pairwise_iff_getElem.1 h2 q j hq hj hqi, List.pairwise_iff_getElem.1 h3 q j hq hj hqi⟩⟩

abbrev tox (st t : Int) (x : S30) : S30 := blast_Clear.to st t x
abbrev chg (st t : Int) (cv : S30 → Int) (l : List S30) (i : Int) : List S30 × Int := blast_Clear.chg st t cv l i
def cClear (t : Int) (em : Bool) (x : S30) : Int := if x.f3 = 0 then (if em = true then (if x.f5.f0 ≤ t ∧ t < x.f5.f1 then 0 else 14) else 13) else 10
def cArm (by_ t : Int) (x : S30) : Int := if x.f3 = 1 then (if by_ = x.f2 then (if x.f5.f0 ≤ t ∧ t < x.f5.f1 then 0 else 14) else 17) else 10
def cFire (by_ : Int) (em : Bool) (x : S30) : Int := if x.f3 = 2 then (if by_ = x.f2 then (if em = true then 0 else 13) else 17) else 10
def cEnd (x : S30) : Int := if x.f3 = 3 then 0 else 10
def cAbort (t : Int) (x : S30) : Int := if x.f3 = 3 ∨ ov x.f3 = false then 10 else if x.f3 = 4 ∧ t < wrap64 (x.f4 + 1800) then 13 else 0
theorem windowed_eq (a0 a1 a2 a3 a4 a5 a6 t : Int) : blast_windowed.f a0 a1 a2 a3 a4 a5 a6 t = some (decide (a5 ≤ t ∧ t < a6)) := by
  unfold blast_windowed.f
  by_cases h : t ≥ a5
  · rw [if_pos h]; simp [show a5 ≤ t from h]
  · rw [if_neg h]; simp [show ¬ a5 ≤ t from h]
theorem cv_clear (t : Int) (em : Bool) (x : S30) : blast_Clear.cv 0 t em x = cClear t em x := by
  unfold blast_Clear.cv cClear blast_clears.f
  rw [windowed_eq]
  simp only [Option.bind_some, decide_eq_true_eq]
  repeat' split
  all_goals simp_all
theorem cv_arm (by_ t : Int) (x : S30) : blast_Arm.cv by_ t false x = cArm by_ t x := by
  unfold blast_Arm.cv cArm blast_arms.f
  rw [windowed_eq]
  simp only [Option.bind_some, decide_eq_true_eq]
  repeat' split
  all_goals simp_all
theorem cv_fire (by_ t : Int) (em : Bool) (x : S30) : blast_Fire.cv by_ t em x = cFire by_ em x := by
  unfold blast_Fire.cv cFire blast_fires.f
  repeat' split
  all_goals simp_all
theorem cv_end (t : Int) (x : S30) : blast_End.cv 0 t false x = cEnd x := by
  unfold blast_End.cv cEnd blast_ends.f
  split <;> rfl
theorem cv_abort (t : Int) (x : S30) : blast_Abort.cv 0 t false x = cAbort t x := by
  unfold blast_Abort.cv cAbort blast_aborts.f
  rw [open_eq]
  simp only [Option.bind_some, blast_aborts.j0]
  generalize ov x.f3 = o
  by_cases h3 : x.f3 = 3
  · simp [h3]
  · by_cases h4 : x.f3 = 4
    · by_cases ht : t < wrap64 (x.f4 + 1800)
      · cases o <;> simp [h4, ht]
      · cases o <;> simp [h4, ht]
    · cases o <;> simp [h3, h4]
theorem clear_eq (l : List S30) (hl : l.length ≤ 1000000) (id : Int) (em : Bool) (t : Int) : blast_Clear.f l id em t = some (chg 1 t (cClear t em) l (ix l id)) := by
  unfold blast_Clear.f
  rw [if_pos (by omega), show blast_Clear.cv 0 t em = cClear t em from funext (cv_clear t em)]
  rfl
theorem arm_eq (l : List S30) (hl : l.length ≤ 1000000) (id by_ t : Int) : blast_Arm.f l id by_ t = some (chg 2 t (cArm by_ t) l (ix l id)) := by
  unfold blast_Arm.f
  rw [if_pos (by omega), show blast_Arm.cv by_ t false = cArm by_ t from funext (cv_arm by_ t)]
  rfl
theorem fire_eq (l : List S30) (hl : l.length ≤ 1000000) (id by_ : Int) (wk em : Bool) (t : Int) : blast_Fire.f l id by_ wk em t = some (chg (if wk = true then 3 else 4) t (cFire by_ em) l (ix l id)) := by
  unfold blast_Fire.f
  rw [if_pos (by omega), show blast_Fire.cv by_ t em = cFire by_ em from funext (cv_fire by_ t em)]
  rfl
theorem end_eq (l : List S30) (hl : l.length ≤ 1000000) (id t : Int) : blast_End.f l id t = some (chg 5 t cEnd l (ix l id)) := by
  unfold blast_End.f
  rw [if_pos (by omega), show blast_End.cv 0 t false = cEnd from funext (cv_end t)]
  rfl
theorem abort_eq (l : List S30) (hl : l.length ≤ 1000000) (id t : Int) : blast_Abort.f l id t = some (chg 6 t (cAbort t) l (ix l id)) := by
  unfold blast_Abort.f
  rw [if_pos (by omega), show blast_Abort.cv 0 t false = cAbort t from funext (cv_abort t)]
  rfl

def comv (l : List S30) (id t : Int) : Int × Int := if ix l id < 0 then (0, 8) else if t < (rd_T30 l (ix l id)).f4 ∨ t > 20000000 then (0, 11) else (ix l id, 0)
theorem take_set (l : List S30) (j : Nat) (y : S30) (i : Nat) (hi : i < l.length) : (l.set j y).take i ++ [if (i : Int) = (j : Int) then y else l[i]] = (l.set j y).take (i + 1) := by
  rw [List.take_succ_eq_append_getElem (by rw [List.length_set]; exact hi), List.getElem_set]
  by_cases h : j = i
  · subst h; simp
  · rw [if_neg (by omega), if_neg h]
theorem common_cases (l : List S30) (id t : Int) : (comv l id t = (0, 8) ∧ ∀ st cv, chg st t cv l (ix l id) = ([], 8)) ∨ (comv l id t = (0, 11) ∧ ∀ st cv, chg st t cv l (ix l id) = ([], 11)) ∨
    ∃ j : Nat, ∃ hj : j < l.length, ix l id = (j : Int) ∧ l[j].f0 = id ∧ l[j].f4 ≤ t ∧ t ≤ 20000000 ∧ comv l id t = ((j : Int), 0) ∧ ∀ st cv, chg st t cv l (ix l id) = if cv l[j] ≠ 0 then ([], cv l[j]) else (l.set j (tox st t l[j]), 0) := by
  rcases ix_spec l id with ⟨h1, _⟩ | ⟨j, hj, h1, h2⟩
  · exact .inl ⟨by unfold comv; rw [if_pos (by omega)], fun st cv => by unfold chg blast_Clear.chg; rw [if_pos (by omega)]⟩
  · have hx := rd_at l j hj
    by_cases ht : t < l[j].f4 ∨ t > 20000000
    · exact .inr (.inl ⟨by unfold comv; rw [h1, hx, if_neg (by omega), if_pos ht], fun st cv => by unfold chg blast_Clear.chg; rw [h1, hx, if_neg (by omega), if_pos ht]⟩)
    · exact .inr (.inr ⟨j, hj, h1, h2, by omega, by omega, by unfold comv; rw [h1, hx, if_neg (by omega), if_neg ht], fun st cv => by unfold chg blast_Clear.chg; rw [h1, hx, if_neg (by omega), if_neg ht, Int.toNat_natCast]⟩)
def planv (l : List S30) (m : S30) : List S30 × Int := if m.f3 = 0 then (if rv (l ++ [m]) = 0 then (l ++ [m], 0) else ([], rv (l ++ [m]))) else ([], 10)
theorem plan_eq (l : List S30) (hl : l.length ≤ 1000000) (m : S30) : blast_Plan.f l m.f0 m.f1 m.f2 m.f3 m.f4 m.f5.f0 m.f5.f1 = some (planv l m) := by
  unfold blast_Plan.f planv
  by_cases h : m.f3 = 0
  · rw [if_pos h, if_pos h]
    unfold api_Mission.f
    rw [if_pos (by omega)]
    simp only [Option.bind_some]
    rw [if_pos (by simp; omega), right_eq, Option.bind_some]
    by_cases h2 : rv (l ++ [m]) = 0
    · rw [if_pos h2, if_pos h2]
    · rw [if_neg h2, if_neg h2]
  · rw [if_neg h, if_neg h]
def acts (l : List S30) : List Int := (l.filter fun x => ov x.f3 && !(x.f3 == 0)).map S30.f1
def actv (l : List S30) : List Int := (acts l).mergeSort fun x y => decide (x ≤ y)
theorem acts_cons (x : S30) (xs : List S30) : acts (x :: xs) = if (ov x.f3 && !(x.f3 == 0)) = true then x.f1 :: acts xs else acts xs := by
  unfold acts
  rw [List.filter_cons]
  split <;> rfl
theorem active_l0 (l : List S30) (hl : l.length ≤ 1000000) : ∀ (d i : Nat) (out : List Int), i + d = l.length → out.length ≤ i → Ev (fun k => blast_Active.l0 k out l (l.length : Int) (i : Int)) ((out ++ acts (l.drop i)).mergeSort fun x y => decide (x ≤ y))
  | 0, i, out, h, ho => by
    refine Ev.step (fun _ => rfl) ?_
    simp only [blast_Active.l0]
    refine ev_if_neg (by omega) (ev_bind_some (a := out.mergeSort fun x y => decide (x ≤ y)) ?_ (ev_some ?_))
    · unfold slices_Sort_int_int.f
      rw [if_pos (by omega)]
    · rw [List.drop_eq_nil_of_le (by omega)]
      simp [acts]
  | d + 1, i, out, h, ho => by
    refine Ev.step (fun _ => rfl) ?_
    simp only [blast_Active.l0]
    have hi : i < l.length := by omega
    rw [rd_at l i hi, wrap_next (by omega), List.drop_eq_getElem_cons hi, acts_cons]
    refine ev_if_pos (by omega) (ev_if_pos (by omega) (ev_if_pos (by omega) (ev_bind_some (open_eq _ _ _ _ _ _ _) ?_)))
    by_cases h1 : ov l[i].f3 = true
    · refine ev_if_pos h1 ?_
      by_cases h2 : l[i].f3 = 0
      · rw [if_neg (by simp [h2])]
        exact ev_if_pos h2 (active_l0 l hl d (i + 1) out (by omega) (by omega))
      · rw [if_pos (by simp [h1, h2])]
        refine ev_if_neg h2 (ev_if_pos (by omega) ?_)
        have ih := active_l0 l hl d (i + 1) (out ++ [l[i].f1]) (by omega) (by simp; omega)
        rw [List.append_assoc] at ih
        exact ih
    · rw [if_neg (by simp [h1])]
      exact ev_if_neg h1 (active_l0 l hl d (i + 1) out (by omega) (by omega))
theorem active_ev (l : List S30) (hl : l.length ≤ 1000000) : Ev (fun k => blast_Active.f k l) (actv l) := by
  unfold blast_Active.f actv
  exact active_l0 l hl l.length 0 [] (by omega) (by simp)

def pln : S30 := ⟨1, 5, 7, 0, 900, ⟨1000, 2000⟩⟩
def mis (st t : Int) : S30 := ⟨1, 5, 7, st, t, ⟨1000, 2000⟩⟩
theorem alive_ev : Ev (fun k => skiarealaw51_alive.f k) true := by
  unfold skiarealaw51_alive.f
  refine ev_bind_some (a := (1, 5, 7, 0, 900, 1000, 2000)) rfl ?_
  refine ev_bind_some (a := ([pln], 0)) (by kernel_rfl) ?_
  refine ev_bind_some (a := ([], 14)) (by kernel_rfl) ?_
  refine ev_bind_some (a := ([mis 1 1000], 0)) (by kernel_rfl) ?_
  refine ev_bind_some (a := ([], 17)) (by kernel_rfl) ?_
  refine ev_bind_some (a := ([mis 2 1999], 0)) (by kernel_rfl) ?_
  refine ev_bind_some (a := ([mis 4 2500], 0)) (by kernel_rfl) ?_
  refine ev_bind_some (a := ([], 13)) (by kernel_rfl) ?_
  refine ev_bind_some (a := ([mis 6 4300], 0)) (by kernel_rfl) ?_
  refine ev_bind_some (a := (1, 5, 7, 0, 900, 1000, 2000)) rfl ?_
  refine ev_bind_some (a := ([], 7)) (by kernel_rfl) ?_
  refine ev_if_pos rfl (ev_if_pos rfl (ev_if_pos rfl (ev_if_pos rfl (ev_if_pos rfl (ev_if_pos rfl (ev_if_pos rfl (ev_if_pos rfl ?_)))))))
  refine Ev.step (fun _ => rfl) ?_
  simp only [skiarealaw51_alive.j0]
  have a1 : actv [mis 4 2500] = [5] := by
    have : acts [mis 4 2500] = [5] := by decide
    unfold actv
    rw [this, List.mergeSort_singleton]
  have a2 : actv [pln] = [] := by
    have : acts [pln] = [] := by decide
    unfold actv
    rw [this, List.mergeSort_nil]
  have a3 : actv [mis 6 4300] = [] := by
    have : acts [mis 6 4300] = [] := by decide
    unfold actv
    rw [this, List.mergeSort_nil]
  have e1 := active_ev [mis 4 2500] (by decide)
  have e2 := active_ev [pln] (by decide)
  have e3 := active_ev [mis 6 4300] (by decide)
  rw [a1] at e1
  rw [a2] at e2
  rw [a3] at e3
  refine ev_if_neg (by decide) (ev_if_pos rfl (ev_if_pos (by decide) (ev_if_pos rfl (ev_if_pos rfl (ev_if_pos rfl (ev_if_pos (by decide) (ev_if_pos rfl ?_)))))))
  refine ev_bind e1 (ev_bind (sameInts_refl [5] (by decide)) (ev_if_pos rfl (ev_bind e2 (ev_if_pos rfl (ev_bind e3 (ev_if_pos rfl (ev_bind_some (a := 0) (by kernel_rfl) (ev_some rfl))))))))
end Go.Proofs.Ytjlfaoaoinhebaa.Plain
