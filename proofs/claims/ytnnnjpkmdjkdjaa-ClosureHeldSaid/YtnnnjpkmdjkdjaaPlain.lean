/- The closures' plain laws: what the program's and the reference's functions answer. -/
import Derived.Test.YtnnnjpkmdjkdjaaA0
import Derived.Test.YtnnnjpkmdjkdjaaA3
import Derived.Test.YtnnnjpkmdjkdjaaA4
import Derived.Test.YtnnnjpkmdjkdjaaA5
import Derived.Test.YtnnnjpkmdjkdjaaA6
import Derived.Test.YtnnnjpkmdjkdjaaA7
import Derived.Test.YtnnnjpkmdjkdjaaA8
import Derived.Test.YtnnnjpkmdjkdjaaA9
import Derived.Test.YtnnnjpkmdjkdjaaA10
import Derived.Test.YtnnnjpkmdjkdjaaA11
import Derived.Test.YtnnnjpkmdjkdjaaA14
import Derived.Test.YtnnnjpkmdjkdjaaA15
import Derived.Test.YtnnnjpkmdjkdjaaA16
import Derived.Test.YtnnnjpkmdjkdjaaA18
import Derived.Test.YtnnnjpkmdjkdjaaA24
import Derived.Test.YtnnnjpkmdjkdjaaA26
import Derived.Test.YtnnnjpkmdjkdjaaAR
import Derived.Test.YtnnnjpkmdjkdjaaHEv
import Derived.KernelRfl
namespace Go.Proofs.Ytnnnjpkmdjkdjaa.Plain
open Go.RowKit Go.Proofs.YtnnnjpkmdjkdjaaW.PrintWords Go.Proofs.Ytnnnjpkmdjkdjaa.A Go.Proofs.Ytnnnjpkmdjkdjaa.HEv
set_option linter.unusedVariables false
set_option linter.unusedSimpArgs false

theorem rd_at (l : List S28) (i : Nat) (h : i < l.length) : rd_T28 l (i : Int) = l[i] := by simp [rd_T28, h]
theorem rdi_at (l : List Int) (i : Nat) (h : i < l.length) : rd l (i : Int) = l[i] := by simp [rd, h]

theorem same_ev (l : List S28) (hl : l.length ≤ 1000000) : ∀ (d i : Nat), i + d = l.length → Ev (fun k => skiarearef52_Same.l0 k l l (i : Int)) true
  | 0, i, h => by
    refine Ev.step (fun _ => rfl) ?_
    simp only [skiarearef52_Same.l0]
    exact ev_if_neg (by omega) (ev_some rfl)
  | d + 1, i, h => by
    refine Ev.step (fun _ => rfl) ?_
    simp only [skiarearef52_Same.l0]
    refine ev_if_pos (by omega) (ev_if_pos (by omega) (ev_if_pos (by omega) (ev_if_neg (by simp) ?_)))
    rw [wrap_next (by omega)]
    exact same_ev l hl d (i + 1) (by omega)
theorem same_refl (l : List S28) (hl : l.length ≤ 1000000) : Ev (fun k => skiarearef52_Same.f k l l) true := by
  unfold skiarearef52_Same.f
  exact ev_if_pos rfl (same_ev l hl l.length 0 (by omega))
theorem sameInts_ev (l : List Int) (hl : l.length ≤ 1000000) : ∀ (d i : Nat), i + d = l.length → Ev (fun k => skiarearef52_SameInts.l0 k l l (i : Int)) true
  | 0, i, h => by
    refine Ev.step (fun _ => rfl) ?_
    simp only [skiarearef52_SameInts.l0]
    exact ev_if_neg (by omega) (ev_some rfl)
  | d + 1, i, h => by
    refine Ev.step (fun _ => rfl) ?_
    simp only [skiarearef52_SameInts.l0]
    refine ev_if_pos (by omega) (ev_if_pos (by omega) (ev_if_pos (by omega) (ev_if_pos (by trivial) ?_)))
    rw [wrap_next (by omega)]
    exact sameInts_ev l hl d (i + 1) (by omega)
theorem sameInts_refl (l : List Int) (hl : l.length ≤ 1000000) : Ev (fun k => skiarearef52_SameInts.f k l l) true := by
  unfold skiarearef52_SameInts.f
  exact ev_if_pos rfl (sameInts_ev l hl l.length 0 (by omega))

def hit (a b c : Int) (x : S28) : Prop := x.f0 = a ∧ x.f1 = b ∧ x.f2 = c
instance (a b c : Int) (x : S28) : Decidable (hit a b c x) := by unfold hit; infer_instance
theorem pr_iff (a b c : Int) (x : S28) : closure_index.pr a b c x = true ↔ hit a b c x := by
  simp [closure_index.pr, hit]
def pl (l : List S28) (a b c : Int) : Int := closure_index.idx (closure_index.pr a b c) 0 l
theorem place_l0 (l : List S28) (hl : l.length ≤ 1000000) (a b c : Int) : ∀ (d i : Nat), i + d = l.length → Ev (fun k => skiarearef52_Place.l0 k l a b c (i : Int)) (closure_index.idx (closure_index.pr a b c) i (l.drop i))
  | 0, i, h => by
    refine Ev.step (fun _ => rfl) ?_
    simp only [skiarearef52_Place.l0]
    rw [List.drop_eq_nil_of_le (by omega)]
    exact ev_if_neg (by omega) (ev_some rfl)
  | d + 1, i, h => by
    refine Ev.step (fun _ => rfl) ?_
    simp only [skiarearef52_Place.l0]
    have hi : i < l.length := by omega
    refine ev_if_pos (by omega) (ev_if_pos (by omega) ?_)
    rw [rd_at l i hi, wrap_next (by omega), List.drop_eq_getElem_cons hi]
    have ih := place_l0 l hl a b c d (i + 1) (by omega)
    simp only [closure_index.idx]
    by_cases e0 : l[i].f0 = a
    · refine ev_if_pos e0 ?_
      by_cases e1 : l[i].f1 = b
      · refine ev_if_pos e1 ?_
        by_cases e2 : l[i].f2 = c
        · rw [if_pos ((pr_iff _ _ _ _).2 ⟨e0, e1, e2⟩)]
          exact ev_if_pos e2 (ev_some rfl)
        · rw [if_neg (fun hh => e2 ((pr_iff _ _ _ _).1 hh).2.2)]
          exact ev_if_neg e2 ih
      · rw [if_neg (fun hh => e1 ((pr_iff _ _ _ _).1 hh).2.1)]
        exact ev_if_neg e1 ih
    · rw [if_neg (fun hh => e0 ((pr_iff _ _ _ _).1 hh).1)]
      exact ev_if_neg e0 ih
theorem place_ev (l : List S28) (hl : l.length ≤ 1000000) (a b c : Int) : Ev (fun k => skiarearef52_Place.f k l a b c) (pl l a b c) := by
  unfold skiarearef52_Place.f pl
  exact place_l0 l hl a b c l.length 0 (by omega)
theorem index_eq (l : List S28) (a b c : Int) : closure_index.f l a b c = some (pl l a b c) := rfl
theorem idx_spec (p : S28 → Bool) : ∀ (xs : List S28) (i : Nat), (closure_index.idx p i xs = -1 ∧ ∀ x ∈ xs, p x = false) ∨ ∃ j, ∃ h : j < xs.length, closure_index.idx p i xs = ((i + j : Nat) : Int) ∧ p xs[j] = true ∧ ∀ q, ∀ hq : q < xs.length, q < j → p xs[q] = false
  | [], i => .inl ⟨rfl, by simp⟩
  | x :: xs, i => by
    simp only [closure_index.idx]
    by_cases h : p x = true
    · rw [if_pos h]
      exact .inr ⟨0, by simp, by simp, by simpa using h, fun q _ hq => absurd hq (by omega)⟩
    · rw [if_neg h]
      rcases idx_spec p xs (i + 1) with ⟨h1, h2⟩ | ⟨j, hj, h1, h2, h3⟩
      · exact .inl ⟨h1, fun y hy => by rcases List.mem_cons.1 hy with rfl | hy; exact Bool.eq_false_iff.2 h; exact h2 y hy⟩
      · refine .inr ⟨j + 1, by simp; omega, by rw [h1]; congr 1; omega, by simpa using h2, fun q hq hlt => ?_⟩
        rcases q with _ | q
        · exact Bool.eq_false_iff.2 h
        · simpa using h3 q (by simpa using hq) (by omega)
theorem pl_spec (l : List S28) (a b c : Int) : (pl l a b c = -1 ∧ ∀ x ∈ l, ¬ hit a b c x) ∨ ∃ j : Nat, ∃ h : j < l.length, pl l a b c = (j : Int) ∧ hit a b c l[j] := by
  rcases idx_spec (closure_index.pr a b c) l 0 with ⟨h1, h2⟩ | ⟨j, hj, h1, h2, h3⟩
  · exact .inl ⟨h1, fun x hx hh => by have := (pr_iff a b c x).2 hh; rw [h2 x hx] at this; cases this⟩
  · exact .inr ⟨j, hj, by rw [pl, h1, Nat.zero_add], (pr_iff _ _ _ _).1 h2⟩
theorem pl_neg {l : List S28} {a b c : Int} : pl l a b c < 0 ↔ ∀ x ∈ l, ¬ hit a b c x := by
  rcases pl_spec l a b c with ⟨h1, h2⟩ | ⟨j, hj, h1, h2⟩
  · exact ⟨fun _ => h2, fun _ => by omega⟩
  · exact ⟨fun h => by omega, fun h => absurd h2 (h _ (List.getElem_mem hj))⟩
theorem pl_pos {l : List S28} {a b c : Int} : 0 ≤ pl l a b c ↔ ∃ x ∈ l, hit a b c x := by
  rcases pl_spec l a b c with ⟨h1, h2⟩ | ⟨j, hj, h1, h2⟩
  · exact ⟨fun h => by omega, fun ⟨x, hx, hh⟩ => absurd hh (h2 x hx)⟩
  · exact ⟨fun h => ⟨_, List.getElem_mem hj, h2⟩, fun h => by omega⟩
theorem pl_le {l : List S28} {a b c : Int} : pl l a b c < l.length := by
  rcases pl_spec l a b c with ⟨h1, h2⟩ | ⟨j, hj, h1, h2⟩ <;> omega

def vb (a b c e : Int) : Bool := (closure_valid.f a b c e).getD false
theorem valid_eq (a b c e : Int) : closure_valid.f a b c e = some (vb a b c e) := by
  unfold vb closure_valid.f
  repeat' split
  all_goals rfl
theorem may_eq (a b c e : Int) : skiarearef52_may.f a b c e = some (vb a b c e) := valid_eq a b c e
theorem vb_iff (a b c e : Int) : vb a b c e = true ↔ (1 ≤ a ∧ a ≤ 3 ∧ 1 ≤ b ∧ b ≤ 9999 ∧ 1 ≤ c ∧ c ≤ 6 ∧ 0 ≤ e ∧ e ≤ 20000000) := by
  unfold vb closure_valid.f
  repeat' split
  all_goals simp
  all_goals omega
def rgo (l : List S28) : Nat → Nat → Int
  | 0, _ => 0
  | d + 1, i => if vb (rd_T28 l i).f0 (rd_T28 l i).f1 (rd_T28 l i).f2 (rd_T28 l i).f3 = true then (if pl (l.take i) (rd_T28 l i).f0 (rd_T28 l i).f1 (rd_T28 l i).f2 ≥ 0 then 7 else rgo l d (i + 1)) else 2
def rv (l : List S28) : Int := if (l.length : Int) > 200 then 4 else rgo l l.length 0
theorem right_l0 (l : List S28) (hl : l.length ≤ 1000000) : ∀ (d i : Nat), i + d = l.length → Ev (fun k => closure_Right.l0 k l l (l.length : Int) (i : Int)) (rgo l d i)
  | 0, i, h => by
    refine Ev.step (fun _ => rfl) ?_
    simp only [closure_Right.l0]
    exact ev_if_neg (by omega) (ev_some rfl)
  | d + 1, i, h => by
    refine Ev.step (fun _ => rfl) ?_
    simp only [closure_Right.l0]
    refine ev_if_pos (by omega) (ev_if_pos (by omega) (ev_if_pos (by omega) (ev_bind_some (valid_eq _ _ _ _) ?_)))
    simp only [rgo]
    refine ev_ite (fun _ => ev_if_pos (by omega) (ev_bind_some rfl (ev_bind_some (index_eq _ _ _ _) ?_))) (fun _ => ev_some rfl)
    rw [Int.toNat_natCast, wrap_next (by omega)]
    exact ev_ite (fun _ => ev_some rfl) (fun _ => right_l0 l hl d (i + 1) (by omega))
theorem right_ev (l : List S28) : Ev (fun k => closure_Right.f k l) (rv l) := by
  unfold closure_Right.f rv
  exact ev_ite (fun _ => ev_some rfl) (fun h => right_l0 l (by omega) l.length 0 (by omega))
theorem refRight_l0 (l : List S28) (hl : l.length ≤ 1000000) : ∀ (d i : Nat), i + d = l.length → Ev (fun k => skiarearef52_Right.l0 k l (i : Int)) (rgo l d i)
  | 0, i, h => by
    refine Ev.step (fun _ => rfl) ?_
    simp only [skiarearef52_Right.l0]
    exact ev_if_neg (by omega) (ev_some rfl)
  | d + 1, i, h => by
    refine Ev.step (fun _ => rfl) ?_
    simp only [skiarearef52_Right.l0]
    refine ev_if_pos (by omega) (ev_if_pos (by omega) (ev_bind_some (may_eq _ _ _ _) ?_))
    simp only [rgo]
    refine ev_ite (fun _ => ev_if_pos (by omega) (ev_bind (place_ev _ (by rw [List.length_take]; omega) _ _ _) ?_)) (fun _ => ev_some rfl)
    rw [Int.toNat_natCast, wrap_next (by omega)]
    exact ev_ite (fun _ => ev_some rfl) (fun _ => refRight_l0 l hl d (i + 1) (by omega))
theorem refRight_ev (l : List S28) : Ev (fun k => skiarearef52_Right.f k l) (rv l) := by
  unfold skiarearef52_Right.f rv
  exact ev_ite (fun _ => ev_some rfl) (fun h => refRight_l0 l (by omega) l.length 0 (by omega))
theorem lawRight_ev (l : List S28) : Ev (fun k => skiarealaw52_right.f k l) (rv l == 0) := by
  unfold skiarealaw52_right.f
  exact ev_bind (refRight_ev l) (ev_some rfl)
/-- What a right list is. -/
def Good (l : List S28) : Prop := l.length ≤ 200 ∧ (∀ x ∈ l, vb x.f0 x.f1 x.f2 x.f3 = true) ∧ l.Pairwise fun x y => ¬ hit y.f0 y.f1 y.f2 x
theorem rgo_zero (l : List S28) : ∀ (d i : Nat), i + d = l.length → (rgo l d i = 0 ↔ ∀ j, ∀ h : j < l.length, i ≤ j → vb l[j].f0 l[j].f1 l[j].f2 l[j].f3 = true ∧ ∀ q, ∀ hq : q < l.length, q < j → ¬ hit l[j].f0 l[j].f1 l[j].f2 l[q])
  | 0, i, h => by
    simp only [rgo, true_iff]
    intro j hj hij
    omega
  | d + 1, i, h => by
    have hi : i < l.length := by omega
    simp only [rgo, rd_at l i hi]
    have hp : pl (l.take i) l[i].f0 l[i].f1 l[i].f2 ≥ 0 ↔ ¬ ∀ q, ∀ hq : q < l.length, q < i → ¬ hit l[i].f0 l[i].f1 l[i].f2 l[q] := by
      constructor
      · intro h0 hh
        obtain ⟨x, hx, hx2⟩ := pl_pos.1 h0
        obtain ⟨q, hq, rfl⟩ := List.getElem_of_mem hx
        rw [List.length_take] at hq
        exact hh q (by omega) (by omega) (by simpa using hx2)
      · intro hh
        apply Int.not_lt.1
        intro h0
        refine hh (fun q hq hqi => pl_neg.1 h0 _ ?_)
        exact List.mem_take_iff_getElem.2 ⟨q, by omega, rfl⟩
    have ih := rgo_zero l d (i + 1) (by omega)
    by_cases hv : vb l[i].f0 l[i].f1 l[i].f2 l[i].f3 = true
    · rw [if_pos hv]
      by_cases h7 : pl (l.take i) l[i].f0 l[i].f1 l[i].f2 ≥ 0
      · rw [if_pos h7]
        refine ⟨fun h0 => absurd h0 (by decide), fun hh => absurd (hh i hi (Nat.le_refl _)).2 (hp.1 h7)⟩
      · rw [if_neg h7, ih]
        constructor
        · intro hh j hj hij
          rcases Nat.lt_or_ge i j with h1 | h1
          · exact hh j hj h1
          · obtain rfl : j = i := by omega
            exact ⟨hv, Classical.not_not.1 (fun h9 => h7 (hp.2 h9))⟩
        · exact fun hh j hj hij => hh j hj (by omega)
    · rw [if_neg hv]
      exact ⟨fun h0 => absurd h0 (by decide), fun hh => absurd (hh i hi (Nat.le_refl _)).1 hv⟩
theorem rv_zero {l : List S28} : rv l = 0 ↔ Good l := by
  unfold rv Good
  by_cases h : (l.length : Int) > 200
  · rw [if_pos h]
    exact ⟨fun h0 => absurd h0 (by decide), fun h0 => absurd h0.1 (by omega)⟩
  · rw [if_neg h, rgo_zero l l.length 0 (by omega)]
    constructor
    · intro hh
      refine ⟨by omega, fun x hx => ?_, List.pairwise_iff_getElem.2 fun i j hi hj hij => (hh j hj (by omega)).2 i hi hij⟩
      obtain ⟨j, hj, rfl⟩ := List.getElem_of_mem hx
      exact (hh j hj (by omega)).1
    · intro ⟨_, h1, h2⟩ j hj _
      exact ⟨h1 _ (List.getElem_mem hj), fun q hq hlt => List.pairwise_iff_getElem.1 h2 q j hq hj hlt⟩
theorem good_append {l : List S28} {x : S28} (h : Good l) (hl : l.length < 200) (hv : vb x.f0 x.f1 x.f2 x.f3 = true) (hn : ∀ y ∈ l, ¬ hit x.f0 x.f1 x.f2 y) : Good (l ++ [x]) := by
  obtain ⟨_, h1, h2⟩ := h
  refine ⟨by simp; omega, fun y hy => ?_, List.pairwise_append.2 ⟨h2, by simp, fun a ha b hb => ?_⟩⟩
  · rcases List.mem_append.1 hy with hy | hy
    · exact h1 y hy
    · rw [List.mem_singleton.1 hy]; exact hv
  · rw [List.mem_singleton.1 hb]; exact hn a ha
theorem good_erase {l : List S28} (h : Good l) (j : Nat) : Good (l.eraseIdx j) :=
  ⟨Nat.le_trans (List.length_eraseIdx_le _ _) h.1, fun y hy => h.2.1 y (List.mem_of_mem_eraseIdx hy), h.2.2.sublist (List.eraseIdx_sublist _ _)⟩
theorem good_uniq {l : List S28} (h : Good l) {i j : Nat} (hi : i < l.length) (hj : j < l.length) {a b c : Int} (h1 : hit a b c l[i]) (h2 : hit a b c l[j]) : i = j := by
  have hp := List.pairwise_iff_getElem.1 h.2.2
  have key : ∀ x y : S28, hit a b c x → hit a b c y → hit y.f0 y.f1 y.f2 x := by
    rintro x y ⟨rfl, rfl, rfl⟩ ⟨h1, h2, h3⟩
    exact ⟨h1.symm, h2.symm, h3.symm⟩
  rcases Nat.lt_trichotomy i j with hlt | he | hlt
  · exact absurd (key _ _ h1 h2) (hp i j hi hj hlt)
  · exact he
  · exact absurd (key _ _ h2 h1) (hp j i hj hi hlt)

def closev (l : List S28) (a b c e : Int) : List S28 × Int := if vb a b c e = true then (if pl l a b c ≥ 0 then (l, 0) else if (l.length : Int) ≥ 200 then ([], 9) else (l ++ [⟨a, b, c, e⟩], 0)) else ([], 2)
def openv (l : List S28) (a b c : Int) : List S28 × Int := if pl l a b c < 0 then ([], 8) else (l.eraseIdx (pl l a b c).toNat, 0)
theorem clone_eq (l : List S28) (hl : l.length ≤ 1000000) : api_Closure_33.f l = some l := by
  unfold api_Closure_33.f
  rw [if_pos (by omega)]
theorem close_eq (l : List S28) (hl : l.length ≤ 1000000) (a b c e : Int) : closure_Close.f l a b c e = some (closev l a b c e) := by
  unfold closure_Close.f closev
  rw [valid_eq, Option.bind_some]
  by_cases hv : vb a b c e = true
  · rw [if_pos hv, if_pos hv]
    simp only [closure_keyOf.f, Option.bind_some, index_eq, clone_eq l hl]
    by_cases h0 : pl l a b c ≥ 0
    · rw [if_pos h0, if_pos h0]
    · rw [if_neg h0, if_neg h0]
      by_cases h2 : (l.length : Int) ≥ 200
      · rw [if_pos h2, if_pos h2]
      · rw [if_neg h2, if_neg h2, if_pos (by simp; omega)]
  · rw [if_neg hv, if_neg hv]
theorem open_eq (l : List S28) (hl : l.length ≤ 1000000) (a b c : Int) : closure_Open.f l a b c = some (openv l a b c) := by
  unfold closure_Open.f openv
  rw [index_eq, Option.bind_some]
  by_cases h0 : pl l a b c < 0
  · rw [if_pos h0, if_pos h0]
  · have hlt := @pl_le l a b c
    rw [if_neg h0, if_neg h0, clone_eq l hl, Option.bind_some]
    unfold api_Closure_34.f
    rw [HEv.wrap_small (by omega) (by omega), if_pos ⟨by omega, hlt, rfl⟩]
    rfl
def bys (l : List S28) (a b : Int) : List Int := (l.filter fun x => x.f0 == a && x.f1 == b).map S28.f2
def ofv (l : List S28) (a b : Int) : List Int := (bys l a b).mergeSort fun x y => decide (x ≤ y)
theorem bys_le (l : List S28) (a b : Int) : (bys l a b).length ≤ l.length := by
  unfold bys
  rw [List.length_map]
  exact List.length_filter_le _ _
theorem bys_cons (x : S28) (xs : List S28) (a b : Int) : bys (x :: xs) a b = if (x.f0 == a && x.f1 == b) = true then x.f2 :: bys xs a b else bys xs a b := by
  unfold bys
  rw [List.filter_cons]
  split <;> rfl
theorem of_l0 (l : List S28) (hl : l.length ≤ 1000000) (a b : Int) : ∀ (d i : Nat) (out : List Int), i + d = l.length → out.length ≤ i → Ev (fun k => closure_Of.l0 k a b out l (l.length : Int) (i : Int)) ((out ++ bys (l.drop i) a b).mergeSort fun x y => decide (x ≤ y))
  | 0, i, out, h, ho => by
    refine Ev.step (fun _ => rfl) ?_
    simp only [closure_Of.l0]
    refine ev_if_neg (by omega) (ev_bind_some (a := out.mergeSort fun x y => decide (x ≤ y)) ?_ (ev_some ?_))
    · unfold slices_Sort_int_int.f
      rw [if_pos (by omega)]
    · rw [List.drop_eq_nil_of_le (by omega)]
      simp [bys]
  | d + 1, i, out, h, ho => by
    refine Ev.step (fun _ => rfl) ?_
    simp only [closure_Of.l0]
    have hi : i < l.length := by omega
    refine ev_if_pos (by omega) (ev_if_pos (by omega) (ev_if_pos (by omega) (ev_bind_some rfl ?_)))
    rw [rd_at l i hi, wrap_next (by omega), List.drop_eq_getElem_cons hi]
    by_cases hc : (l[i].f0 == a && l[i].f1 == b) = true
    · refine ev_if_pos (by simpa [and_assoc] using hc) (ev_if_pos (by omega) ?_)
      refine ev_eq (of_l0 l hl a b d (i + 1) (out ++ [l[i].f2]) (by omega) (by simp; omega)) ?_
      rw [bys_cons, if_pos hc, List.append_assoc]
      rfl
    · refine ev_if_neg (by simpa [and_assoc] using hc) ?_
      rw [bys_cons, if_neg hc]
      exact of_l0 l hl a b d (i + 1) out (by omega) (by omega)
theorem of_ev (l : List S28) (hl : l.length ≤ 1000000) (a b : Int) : Ev (fun k => closure_Of.f k l a b) (ofv l a b) := by
  unfold closure_Of.f ofv
  exact of_l0 l hl a b l.length 0 [] (by omega) (by simp)
def rof (l : List S28) (a b : Int) : List Int := ([1, 2, 3, 4, 5, 6] : List Int).filter fun c => decide (pl l a b c ≥ 0)
theorem mem_bys {l : List S28} {a b c : Int} : c ∈ bys l a b ↔ ∃ x ∈ l, hit a b c x := by
  unfold bys hit
  rw [List.mem_map]
  constructor
  · rintro ⟨x, hx, rfl⟩
    obtain ⟨h1, h2⟩ := List.mem_filter.1 hx
    simp only [Bool.and_eq_true, beq_iff_eq] at h2
    exact ⟨x, h1, h2.1, h2.2, rfl⟩
  · rintro ⟨x, hx, h1, h2, rfl⟩
    exact ⟨x, List.mem_filter.2 ⟨hx, by simp [h1, h2]⟩, rfl⟩
theorem nodup_bys {l : List S28} (h : Good l) (a b : Int) : (bys l a b).Nodup := by
  unfold bys
  refine List.pairwise_map.2 ?_
  refine List.Pairwise.imp_of_mem ?_ (h.2.2.sublist List.filter_sublist)
  intro x y hx hy hn he
  have h1 := (List.mem_filter.1 hx).2
  have h2 := (List.mem_filter.1 hy).2
  simp only [Bool.and_eq_true, beq_iff_eq] at h1 h2
  exact hn ⟨h1.1.trans h2.1.symm, h1.2.trans h2.2.symm, he⟩
theorem mem_rof {l : List S28} (h : Good l) {a b c : Int} : c ∈ rof l a b ↔ ∃ x ∈ l, hit a b c x := by
  unfold rof
  rw [List.mem_filter, decide_eq_true_eq, ge_iff_le, pl_pos]
  refine ⟨fun hh => hh.2, fun hh => ⟨?_, hh⟩⟩
  obtain ⟨x, hx, hxh⟩ := hh
  have h3 := hxh.2.2
  have hv := (vb_iff _ _ _ _).1 (h.2.1 x hx)
  simp only [List.mem_cons, List.not_mem_nil, or_false]
  omega
theorem ofv_rof {l : List S28} (h : Good l) (a b : Int) : ofv l a b = rof l a b := by
  have hn2 : (rof l a b).Nodup := List.Pairwise.sublist List.filter_sublist (by decide)
  have hs2 : (rof l a b).Pairwise (fun x y => x ≤ y) := List.Pairwise.sublist List.filter_sublist (by decide)
  have hs1 : (ofv l a b).Pairwise (fun x y => x ≤ y) := (List.pairwise_mergeSort (le := fun x y : Int => decide (x ≤ y)) (by intro a b c h1 h2; simp only [decide_eq_true_eq] at *; omega) (by intro a b; simp only [Bool.or_eq_true, decide_eq_true_eq]; omega) (bys l a b)).imp (fun hh => by simpa using hh)
  refine List.Perm.eq_of_pairwise (fun x y _ _ h1 h2 => by omega) hs1 hs2 ?_
  refine (List.mergeSort_perm _ _).trans ((List.perm_ext_iff_of_nodup (nodup_bys h a b) hn2).2 fun c => ?_)
  rw [mem_bys, mem_rof h]
theorem mem_ofv {l : List S28} {a b c : Int} : c ∈ ofv l a b ↔ ∃ x ∈ l, hit a b c x := by
  rw [← mem_bys]
  exact (List.mergeSort_perm _ _).mem_iff
theorem ofv_len (l : List S28) (a b : Int) : (ofv l a b).length ≤ l.length := by
  unfold ofv
  rw [List.length_mergeSort]
  exact bys_le l a b
theorem has_l0 (l : List Int) (hl : l.length ≤ 1000000) (n : Int) : ∀ (d i : Nat), i + d = l.length → Ev (fun k => skiarealaw52_has.l0 k l n (i : Int)) (decide (n ∈ l.drop i))
  | 0, i, h => by
    refine Ev.step (fun _ => rfl) ?_
    simp only [skiarealaw52_has.l0]
    rw [List.drop_eq_nil_of_le (by omega)]
    exact ev_if_neg (by omega) (ev_some rfl)
  | d + 1, i, h => by
    refine Ev.step (fun _ => rfl) ?_
    simp only [skiarealaw52_has.l0]
    have hi : i < l.length := by omega
    refine ev_if_pos (by omega) (ev_if_pos (by omega) ?_)
    rw [rdi_at l i hi, wrap_next (by omega), List.drop_eq_getElem_cons hi]
    by_cases e0 : l[i] = n
    · exact ev_if_pos e0 (ev_some (by simp [e0]))
    · refine ev_if_neg e0 (ev_eq (has_l0 l hl n d (i + 1) (by omega)) ?_)
      exact decide_eq_decide.2 ⟨List.mem_cons_of_mem _, fun hh => (List.mem_cons.1 hh).resolve_left (fun h => e0 h.symm)⟩
theorem has_ev (l : List Int) (hl : l.length ≤ 1000000) (n : Int) : Ev (fun k => skiarealaw52_has.f k l n) (decide (n ∈ l)) := by
  unfold skiarealaw52_has.f
  exact has_l0 l hl n l.length 0 (by omega)
def smp : List S28 := [⟨1, 5, 1, 100⟩, ⟨3, 2, 2, 200⟩, ⟨1, 5, 3, 300⟩]
theorem alive_ev : Ev (fun k => skiarealaw52_alive.f k) true := by
  have hr : rv smp = 0 := by decide +kernel
  have hg := rv_zero.1 hr
  have hr2 : rv (smp ++ [⟨1, 5, 1, 100⟩]) = 7 := by decide +kernel
  have ho : closure_Open.f smp 1 5 1 = some ([⟨3, 2, 2, 200⟩, ⟨1, 5, 3, 300⟩], 0) := by kernel_rfl
  have ho2 : closure_Open.f smp 1 5 5 = some ([], 8) := by kernel_rfl
  have hc : closure_Close.f smp 1 5 1 400 = some (smp, 0) := by kernel_rfl
  have hc2 : closure_Close.f smp 2 5 4 400 = some (smp ++ [⟨2, 5, 4, 400⟩], 0) := by kernel_rfl
  have hof : ofv smp 1 5 = [1, 3] := by rw [ofv_rof hg]; decide +kernel
  simp only [skiarealaw52_alive.f, skiarealaw52_sample.f, Option.bind_some]
  refine ev_bind_some ho ?_
  refine ev_bind_some ho2 ?_
  refine ev_bind_some hc ?_
  refine ev_bind_some hc2 ?_
  refine ev_if_pos rfl (ev_if_pos rfl (ev_if_pos rfl (ev_if_pos rfl (ev_bind (right_ev smp) ?_))))
  rw [hr]
  refine ev_if_pos rfl ?_
  refine ev_if_pos (by decide) ?_
  refine ev_if_pos (by decide) (ev_bind (right_ev (smp ++ [⟨1, 5, 1, 100⟩])) ?_)
  rw [hr2]
  refine ev_if_pos rfl (ev_if_pos rfl (ev_bind (same_refl smp (by decide)) (ev_if_pos rfl (Ev.step (fun _ => rfl) ?_))))
  simp only [skiarealaw52_alive.j0]
  refine ev_if_neg (by decide) (ev_bind (of_ev smp (by decide) 1 5) ?_)
  rw [hof]
  exact ev_bind (sameInts_refl [1, 3] (by decide)) (ev_if_pos rfl (ev_bind_some (a := true) (by decide +kernel) (ev_if_pos rfl (ev_bind_some (a := true) (by decide +kernel) (ev_if_pos rfl (ev_bind_some (a := true) (by decide +kernel) (ev_if_pos rfl (ev_bind_some (a := false) (by decide +kernel) (ev_if_neg (by decide) (ev_bind_some (a := false) (by decide +kernel) (ev_if_neg (by decide) (ev_bind_some (a := true) (by decide +kernel) (ev_some rfl)))))))))))))
end Go.Proofs.Ytnnnjpkmdjkdjaa.Plain
