/- The closures' plain laws: the reference's Right of a map answers at all; a run of the map; closed targets. -/
import Derived.Test.YtnnnjpkmdjkdjaaA0
import Derived.Test.YtnnnjpkmdjkdjaaA12
import Derived.Test.YtnnnjpkmdjkdjaaA13
import Derived.Test.YtnnnjpkmdjkdjaaA14
import Derived.Test.YtnnnjpkmdjkdjaaA18
import Derived.Test.YtnnnjpkmdjkdjaaA19
import Derived.Test.YtnnnjpkmdjkdjaaA20
import Derived.Test.YtnnnjpkmdjkdjaaA21
import Derived.Test.YtnnnjpkmdjkdjaaA22
import Derived.Test.YtnnnjpkmdjkdjaaA23
import Derived.Test.YtnnnjpkmdjkdjaaPlain
namespace Go.Proofs.Ytnnnjpkmdjkdjaa.Plain
open Go.RowKit Go.Proofs.YtnnnjpkmdjkdjaaW.PrintWords Go.Proofs.Ytnnnjpkmdjkdjaa.A Go.Proofs.Ytnnnjpkmdjkdjaa.HEv
set_option linter.unusedVariables false
set_option linter.unusedSimpArgs false

/-- An answer at all. -/
def Tot {α : Type} (g : Nat → Option α) : Prop := ∃ v, Ev g v
section
variable {α β : Type}
theorem tot_some (a : α) : Tot (fun _ => some a) := ⟨a, ev_some rfl⟩
theorem tot_ite {c : Prop} [Decidable c] {g f : Nat → Option α} (h1 : c → Tot g) (h2 : ¬ c → Tot f) : Tot (fun n => if c then g n else f n) := by
  by_cases h : c
  · obtain ⟨v, hv⟩ := h1 h
    exact ⟨v, ev_if_pos h hv⟩
  · obtain ⟨v, hv⟩ := h2 h
    exact ⟨v, ev_if_neg h hv⟩
theorem tot_bind {g : Nat → Option β} {f : Nat → β → Option α} (h : Tot g) (k : ∀ a, Tot (fun n => f n a)) : Tot (fun n => (g n).bind (f n)) := by
  obtain ⟨a, ha⟩ := h
  obtain ⟨v, hv⟩ := k a
  exact ⟨v, ev_bind ha hv⟩
theorem tot_bind_some {o : Option β} {f : Nat → β → Option α} {a : β} (h : o = some a) (k : Tot (fun n => f n a)) : Tot (fun n => o.bind (f n)) := by
  obtain ⟨v, hv⟩ := k
  exact ⟨v, ev_bind_some h hv⟩
theorem tot_step {f g : Nat → Option α} (h : ∀ n, f (n + 1) = g n) (k : Tot g) : Tot f := by
  obtain ⟨v, hv⟩ := k
  exact ⟨v, Ev.step h hv⟩
end

def inb (a b c : Int) : Bool := (skiarearef10_in.f a b c).getD false
theorem in_eq (a b c : Int) : skiarearef10_in.f a b c = some (inb a b c) := by
  unfold inb skiarearef10_in.f
  split <;> rfl
theorem inb_iff (a b c : Int) : inb a b c = true ↔ b ≤ a ∧ a ≤ c := by
  unfold inb skiarearef10_in.f
  split <;> simp <;> omega
theorem wrap_pred {i : Nat} (h : i ≤ 4611686018427387904) : wrap64 ((i : Int) - 1) = (i : Int) - 1 := HEv.wrap_small (by omega) (by omega)

theorem nodes_j1 (l : List S59) (hl : l.length ≤ 1000000) (i : Nat) (hi : i < l.length) (b : Bool) (hn : Tot (fun k => skiarearef10_nodes.l0 k l (wrap64 ((i : Int) + 1)))) : Tot (fun k => skiarearef10_nodes.j1 k l (i : Int) b) := by
  refine tot_step (fun _ => rfl) ?_
  simp only [skiarearef10_nodes.j1]
  rw [wrap_pred (by omega)]
  refine tot_ite (fun _ => tot_some _) (fun _ => tot_ite (fun h => tot_ite (fun _ => tot_ite (fun _ => tot_ite (fun _ => tot_ite (fun _ => tot_ite (fun _ => tot_some _) (fun _ => hn)) (fun h => absurd h (by omega))) (fun h => absurd h (by omega))) (fun h => absurd h (by omega))) (fun h => absurd h (by omega))) (fun _ => hn))
theorem nodes_l0 (l : List S59) (hl : l.length ≤ 1000000) : ∀ (d i : Nat), i + d = l.length → Tot (fun k => skiarearef10_nodes.l0 k l (i : Int))
  | 0, i, h => by
    refine tot_step (fun _ => rfl) ?_
    simp only [skiarearef10_nodes.l0]
    exact tot_ite (fun h => absurd h (by omega)) (fun _ => tot_some _)
  | d + 1, i, h => by
    refine tot_step (fun _ => rfl) ?_
    simp only [skiarearef10_nodes.l0]
    have hn : Tot (fun k => skiarearef10_nodes.l0 k l (wrap64 ((i : Int) + 1))) := by rw [wrap_next (by omega)]; exact nodes_l0 l hl d (i + 1) (by omega)
    refine tot_ite (fun _ => tot_ite (fun _ => tot_bind_some (in_eq _ _ _) (tot_ite (fun _ => tot_bind_some (in_eq _ _ _) ?_) (fun _ => ?_))) (fun h => absurd h (by omega))) (fun h => absurd h (by omega))
    all_goals exact nodes_j1 l hl i (by omega) _ hn
theorem node_l0 (a b c e) (hl : (a : List S59).length ≤ 1000000) (n : Int) : ∀ (d i : Nat), i + d = a.length → Tot (fun k => skiarearef10_Node.l0 k n (i : Int) a b c e)
  | 0, i, h => by
    refine tot_step (fun _ => rfl) ?_
    simp only [skiarearef10_Node.l0]
    exact tot_ite (fun h => absurd h (by omega)) (fun _ => tot_some _)
  | d + 1, i, h => by
    refine tot_step (fun _ => rfl) ?_
    simp only [skiarearef10_Node.l0]
    refine tot_ite (fun _ => tot_ite (fun _ => tot_ite (fun _ => tot_some _) (fun _ => ?_)) (fun h => absurd h (by omega))) (fun h => absurd h (by omega))
    rw [wrap_next (by omega)]
    exact node_l0 a b c e hl n d (i + 1) (by omega)
theorem node_tot (a b c e) (hl : (a : List S59).length ≤ 1000000) (n : Int) : Tot (fun k => skiarearef10_Node.f k a b c e n) := by
  unfold skiarearef10_Node.f
  exact node_l0 a b c e hl n a.length 0 (by omega)
theorem rises_tot (a b c e) (hl : (a : List S59).length ≤ 1000000) (x y : Int) : Tot (fun k => skiarearef10_rises.f k a b c e x y) := by
  unfold skiarearef10_rises.f
  have hj : ∀ p q r s t, Tot (fun k => skiarearef10_rises.j0 k p q r s t) := fun p q r s t => by
    refine tot_step (fun _ => rfl) ?_
    simp only [skiarearef10_rises.j0]
    exact tot_ite (fun _ => tot_some _) (fun _ => tot_ite (fun _ => tot_some _) (fun _ => tot_some _))
  exact tot_bind (node_tot a b c e hl x) (fun _ => tot_bind (node_tot a b c e hl y) (fun _ => tot_ite (fun _ => hj _ _ _ _ _) (fun _ => hj _ _ _ _ _)))
theorem carriers_tot (x0 x1 x2 x3 x4 x5 x6 x7 : Int) (h : x7 ≠ 0) : ∃ v, skiarearef10_carriers.f x0 x1 x2 x3 x4 x5 x6 x7 = some v := by
  unfold skiarearef10_carriers.f
  rw [if_neg h]
  split
  · exact ⟨_, by rw [in_eq]; rfl⟩
  · exact ⟨_, rfl⟩
theorem lifts_j2 (a b c e) (ha : (a : List S59).length ≤ 1000000) (i : Nat) (s : Bool) (x0 x1 x2 x3 x4 x5 x6 x7 : Int) (h7 : x7 ≠ 0) (hn : Tot (fun k => skiarearef10_lifts.l0 k (wrap64 ((i : Int) + 1)) a b c e)) : Tot (fun k => skiarearef10_lifts.j2 k (i : Int) s a b c e x0 x1 x2 x3 x4 x5 x6 x7) := by
  refine tot_step (fun _ => rfl) ?_
  simp only [skiarearef10_lifts.j2]
  obtain ⟨v, hv⟩ := carriers_tot x0 x1 x2 x3 x4 x5 x6 x7 h7
  exact tot_ite (fun _ => tot_some _) (fun _ => tot_bind (rises_tot a b c e ha _ _) (fun t => tot_ite (fun _ => tot_bind_some hv (tot_ite (fun _ => hn) (fun _ => tot_some _))) (fun _ => tot_some _)))
theorem lifts_j1 (a b c e) (ha : (a : List S59).length ≤ 1000000) (hb : (b : List S76).length ≤ 1000000) (i : Nat) (hi : i < b.length) (s : Bool) (x0 x1 x2 x3 x4 x5 x6 x7 : Int) (h7 : s = false → x7 ≠ 0) (hn : Tot (fun k => skiarearef10_lifts.l0 k (wrap64 ((i : Int) + 1)) a b c e)) : Tot (fun k => skiarearef10_lifts.j1 k (i : Int) s a b c e x0 x1 x2 x3 x4 x5 x6 x7) := by
  refine tot_step (fun _ => rfl) ?_
  simp only [skiarearef10_lifts.j1]
  rw [wrap_pred (by omega)]
  refine tot_ite (fun _ => tot_some _) (fun hs => ?_)
  have h := h7 (Bool.eq_false_iff.2 hs)
  exact tot_ite (fun _ => tot_ite (fun _ => tot_ite (fun _ => lifts_j2 a b c e ha i _ _ _ _ _ _ _ _ _ h hn) (fun h => absurd h (by omega))) (fun h => absurd h (by omega))) (fun _ => lifts_j2 a b c e ha i _ _ _ _ _ _ _ _ _ h hn)
theorem lifts_l0 (a b c e) (ha : (a : List S59).length ≤ 1000000) (hb : (b : List S76).length ≤ 1000000) : ∀ (d i : Nat), i + d = b.length → Tot (fun k => skiarearef10_lifts.l0 k (i : Int) a b c e)
  | 0, i, h => by
    refine tot_step (fun _ => rfl) ?_
    simp only [skiarearef10_lifts.l0]
    exact tot_ite (fun h => absurd h (by omega)) (fun _ => tot_some _)
  | d + 1, i, h => by
    refine tot_step (fun _ => rfl) ?_
    simp only [skiarearef10_lifts.l0]
    have hn : Tot (fun k => skiarearef10_lifts.l0 k (wrap64 ((i : Int) + 1)) a b c e) := by rw [wrap_next (by omega)]; exact lifts_l0 a b c e ha hb d (i + 1) (by omega)
    have hj : ∀ s x0 x1 x2 x3 x4 x5 x6 x7, (s = false → x7 ≠ 0) → Tot (fun k => skiarearef10_lifts.j1 k (i : Int) s a b c e x0 x1 x2 x3 x4 x5 x6 x7) := fun s x0 x1 x2 x3 x4 x5 x6 x7 h7 => lifts_j1 a b c e ha hb i (by omega) s x0 x1 x2 x3 x4 x5 x6 x7 h7 hn
    refine tot_ite (fun _ => tot_ite (fun _ => tot_bind_some (in_eq _ _ _) (tot_ite (fun _ => tot_bind_some (in_eq _ _ _) (tot_ite (fun _ => tot_bind_some (in_eq _ _ _) (tot_ite (fun _ => tot_bind_some (in_eq _ _ _) (tot_ite (fun _ => tot_bind_some (in_eq _ _ _) (tot_ite (fun _ => tot_bind_some (in_eq _ _ _) (hj _ _ _ _ _ _ _ _ _ (fun h9 => ?_))) (fun _ => hj _ _ _ _ _ _ _ _ _ (by simp)))) (fun _ => hj _ _ _ _ _ _ _ _ _ (by simp)))) (fun _ => hj _ _ _ _ _ _ _ _ _ (by simp)))) (fun _ => hj _ _ _ _ _ _ _ _ _ (by simp)))) (fun _ => hj _ _ _ _ _ _ _ _ _ (by simp)))) (fun h => absurd h (by omega))) (fun h => absurd h (by omega))
    have := (inb_iff _ _ _).1 (by simpa using h9)
    omega
theorem runs_j2 (a b c e) (ha : (a : List S59).length ≤ 1000000) (i : Nat) (s : Bool) (x0 x1 x2 x3 x4 x5 x6 : Int) (hn : Tot (fun k => skiarearef10_runs.l0 k (wrap64 ((i : Int) + 1)) a b c e)) : Tot (fun k => skiarearef10_runs.j2 k (i : Int) s a b c e x0 x1 x2 x3 x4 x5 x6) := by
  refine tot_step (fun _ => rfl) ?_
  simp only [skiarearef10_runs.j2]
  exact tot_ite (fun _ => tot_some _) (fun _ => tot_bind (rises_tot a b c e ha _ _) (fun t => tot_ite (fun _ => hn) (fun _ => tot_some _)))
theorem runs_j1 (a b c e) (ha : (a : List S59).length ≤ 1000000) (hb : (c : List S56).length ≤ 1000000) (i : Nat) (hi : i < c.length) (s : Bool) (x0 x1 x2 x3 x4 x5 x6 : Int) (hn : Tot (fun k => skiarearef10_runs.l0 k (wrap64 ((i : Int) + 1)) a b c e)) : Tot (fun k => skiarearef10_runs.j1 k (i : Int) s a b c e x0 x1 x2 x3 x4 x5 x6) := by
  refine tot_step (fun _ => rfl) ?_
  simp only [skiarearef10_runs.j1]
  rw [wrap_pred (by omega)]
  exact tot_ite (fun _ => tot_some _) (fun hs => tot_ite (fun _ => tot_ite (fun _ => tot_ite (fun _ => runs_j2 a b c e ha i _ _ _ _ _ _ _ _ hn) (fun h => absurd h (by omega))) (fun h => absurd h (by omega))) (fun _ => runs_j2 a b c e ha i _ _ _ _ _ _ _ _ hn))
theorem runs_l0 (a b c e) (ha : (a : List S59).length ≤ 1000000) (hb : (c : List S56).length ≤ 1000000) : ∀ (d i : Nat), i + d = c.length → Tot (fun k => skiarearef10_runs.l0 k (i : Int) a b c e)
  | 0, i, h => by
    refine tot_step (fun _ => rfl) ?_
    simp only [skiarearef10_runs.l0]
    exact tot_ite (fun h => absurd h (by omega)) (fun _ => tot_some _)
  | d + 1, i, h => by
    refine tot_step (fun _ => rfl) ?_
    simp only [skiarearef10_runs.l0]
    have hn : Tot (fun k => skiarearef10_runs.l0 k (wrap64 ((i : Int) + 1)) a b c e) := by rw [wrap_next (by omega)]; exact runs_l0 a b c e ha hb d (i + 1) (by omega)
    have hj : ∀ s x0 x1 x2 x3 x4 x5 x6, Tot (fun k => skiarearef10_runs.j1 k (i : Int) s a b c e x0 x1 x2 x3 x4 x5 x6) := fun s x0 x1 x2 x3 x4 x5 x6 => runs_j1 a b c e ha hb i (by omega) s x0 x1 x2 x3 x4 x5 x6 hn
    exact tot_ite (fun _ => tot_ite (fun _ => tot_bind_some (in_eq _ _ _) (tot_ite (fun _ => tot_bind_some (in_eq _ _ _) (tot_ite (fun _ => tot_bind_some (in_eq _ _ _) (tot_ite (fun _ => tot_bind_some (in_eq _ _ _) (tot_ite (fun _ => tot_bind_some (in_eq _ _ _) (hj _ _ _ _ _ _ _ _)) (fun _ => hj _ _ _ _ _ _ _ _))) (fun _ => hj _ _ _ _ _ _ _ _))) (fun _ => hj _ _ _ _ _ _ _ _))) (fun _ => hj _ _ _ _ _ _ _ _))) (fun h => absurd h (by omega))) (fun h => absurd h (by omega))
theorem bases_l1 (a b c e) (hl : (e : List Int).length ≤ 1000000) : ∀ (d i : Nat), 1 ≤ i → i + d = e.length → Tot (fun k => skiarearef10_bases.l1 k (i : Int) a b c e)
  | 0, i, h1, h => by
    refine tot_step (fun _ => rfl) ?_
    simp only [skiarearef10_bases.l1]
    exact tot_ite (fun h => absurd h (by omega)) (fun _ => tot_some _)
  | d + 1, i, h1, h => by
    refine tot_step (fun _ => rfl) ?_
    simp only [skiarearef10_bases.l1]
    rw [wrap_pred (by omega), wrap_next (by omega)]
    exact tot_ite (fun _ => tot_ite (fun _ => tot_ite (fun _ => tot_ite (fun _ => tot_ite (fun _ => tot_some _) (fun _ => bases_l1 a b c e hl d (i + 1) (by omega) (by omega))) (fun h => absurd h (by omega))) (fun h => absurd h (by omega))) (fun h => absurd h (by omega))) (fun h => absurd h (by omega))
theorem bases_l0 (a b c e) (ha : (a : List S59).length ≤ 1000000) (hl : (e : List Int).length ≤ 1000000) (hne : 1 ≤ e.length) : ∀ (d i : Nat), i + d = e.length → Tot (fun k => skiarearef10_bases.l0 k (i : Int) a b c e)
  | 0, i, h => by
    refine tot_step (fun _ => rfl) ?_
    simp only [skiarearef10_bases.l0]
    exact tot_ite (fun h => absurd h (by omega)) (fun _ => bases_l1 a b c e hl (e.length - 1) 1 (by omega) (by omega))
  | d + 1, i, h => by
    refine tot_step (fun _ => rfl) ?_
    simp only [skiarearef10_bases.l0]
    rw [wrap_next (by omega)]
    exact tot_ite (fun _ => tot_ite (fun _ => tot_bind (node_tot a b c e ha _) (fun _ => tot_ite (fun _ => bases_l0 a b c e ha hl hne d (i + 1) (by omega)) (fun _ => tot_some _))) (fun h => absurd h (by omega))) (fun h => absurd h (by omega))
theorem mapRight_tot (a : List S59) (b : List S76) (c : List S56) (e : List Int) : Tot (fun k => skiarearef10_Right.f k a b c e) := by
  have ht : Tot (fun k => skiarearef10_Right.j0 k true a b c e) := by
    refine tot_step (fun _ => rfl) ?_
    simp only [skiarearef10_Right.j0]
    exact tot_ite (fun _ => tot_some _) (fun h => absurd trivial h)
  unfold skiarearef10_Right.f
  refine tot_ite (fun _ => ht) (fun h1 => tot_ite (fun _ => ht) (fun h2 => tot_ite (fun _ => ht) (fun h3 => ?_)))
  by_cases h4 : (e.length : Int) > 64
  · rw [decide_eq_true h4]; exact ht
  · refine tot_step (fun _ => rfl) ?_
    simp only [skiarearef10_Right.j0]
    refine tot_ite (fun _ => tot_some _) (fun _ => tot_bind ?_ (fun _ => tot_ite (fun _ => tot_bind ?_ (fun _ => tot_ite (fun _ => tot_bind ?_ (fun _ => tot_ite (fun _ => tot_bind ?_ (fun _ => tot_some _)) (fun _ => tot_some _))) (fun _ => tot_some _))) (fun _ => tot_some _)))
    · unfold skiarearef10_nodes.f; exact nodes_l0 a (by omega) a.length 0 (by omega)
    · unfold skiarearef10_lifts.f; exact lifts_l0 a b c e (by omega) (by omega) b.length 0 (by omega)
    · unfold skiarearef10_runs.f; exact runs_l0 a b c e (by omega) (by omega) c.length 0 (by omega)
    · unfold skiarearef10_bases.f
      exact tot_ite (fun _ => tot_some _) (fun h => bases_l0 a b c e (by omega) (by omega) (by omega) e.length 0 (by omega))
/-- A right map has at most 64 runs. -/
theorem mapRight_runs {a : List S59} {b : List S76} {c : List S56} {e : List Int} {v : Int} (h : Ev (fun k => skiarearef10_Right.f k a b c e) v) (h0 : v = 0) : c.length ≤ 64 := by
  subst h0
  by_cases hc : c.length ≤ 64
  · exact hc
  · exfalso
    have ht : Ev (fun k => skiarearef10_Right.j0 k true a b c e) 4 := by
      refine Ev.step (fun _ => rfl) ?_
      simp only [skiarearef10_Right.j0]
      exact ev_if_pos trivial (ev_some rfl)
    have h4 : Ev (fun k => skiarearef10_Right.f k a b c e) 4 := by
      unfold skiarearef10_Right.f
      refine ev_eq (ev_ite (x := 4) (y := 4) (fun _ => ht) (fun _ => ev_eq (ev_ite (x := 4) (y := 4) (fun _ => ht) (fun _ => ev_if_pos (by omega) ht)) (by simp))) (by simp)
    obtain ⟨n1, e1⟩ := h
    obtain ⟨n2, e2⟩ := h4
    have := (e1 (max n1 n2) (Nat.le_max_left _ _)).symm.trans (e2 (max n1 n2) (Nat.le_max_right _ _))
    simp at this

theorem run_l0 (a : List S59) (b : List S76) (c : List S56) (e : List Int) (hl : c.length ≤ 1000000) (n : Int) : ∀ (d i : Nat), i + d = c.length → Ev (fun k => skiarearef10_Run.l0 k n (i : Int) a b c e) (terrain_Run.at c (terrain_Run.idx (terrain_Run.pr n) i (c.drop i)))
  | 0, i, h => by
    refine Ev.step (fun _ => rfl) ?_
    simp only [skiarearef10_Run.l0]
    rw [List.drop_eq_nil_of_le (by omega)]
    exact ev_if_neg (by omega) (ev_some rfl)
  | d + 1, i, h => by
    refine Ev.step (fun _ => rfl) ?_
    simp only [skiarearef10_Run.l0]
    have hi : i < c.length := by omega
    have hr : rd_T56 c (i : Int) = c[i] := by simp [rd_T56, hi]
    refine ev_if_pos (by omega) (ev_if_pos (by omega) ?_)
    rw [wrap_next (by omega), List.drop_eq_getElem_cons hi]
    simp only [terrain_Run.idx]
    by_cases e0 : (rd_T56 c (i : Int)).f0 = n
    · refine ev_if_pos e0 (ev_some ?_)
      rw [if_pos (by rw [← hr]; simpa [terrain_Run.pr] using e0)]
      unfold terrain_Run.at
      rw [if_neg (by omega)]
    · rw [if_neg (by rw [← hr]; simpa [terrain_Run.pr] using e0)]
      exact ev_if_neg e0 (run_l0 a b c e hl n d (i + 1) (by omega))
def runv (c : List S56) (n : Int) : Int × Int × Int × Int × Int × Int × Int × Bool := terrain_Run.at c (terrain_Run.idx (terrain_Run.pr n) 0 c)
theorem run_ev (a : List S59) (b : List S76) (c : List S56) (e : List Int) (hl : c.length ≤ 1000000) (n : Int) : Ev (fun k => skiarearef10_Run.f k a b c e n) (runv c n) := by
  unfold skiarearef10_Run.f
  exact run_l0 a b c e hl n c.length 0 (by omega)
theorem trun_eq (a : List S59) (b : List S76) (c : List S56) (e : List Int) (n : Int) : terrain_Run.f a b c e n = some (runv c n) := rfl

def shut (l : List S28) (a b : Int) : Bool := l.any fun x => x.f0 == a && x.f1 == b
theorem shut_ge (a b : Int) : ∀ (l : List S28) (i : Nat), 0 ≤ closure_closed.idx (closure_closed.pr a b) i l ↔ shut l a b = true
  | [], i => by
    have e1 : closure_closed.idx (closure_closed.pr a b) i [] = -1 := rfl
    have e2 : shut [] a b = false := rfl
    rw [e1, e2]
    simp
  | x :: xs, i => by
    have e1 : closure_closed.idx (closure_closed.pr a b) i (x :: xs) = if closure_closed.pr a b x = true then (i : Int) else closure_closed.idx (closure_closed.pr a b) (i + 1) xs := rfl
    have e2 : shut (x :: xs) a b = (closure_closed.pr a b x || shut xs a b) := rfl
    rw [e1, e2]
    by_cases h : closure_closed.pr a b x = true
    · rw [if_pos h, h]
      simp
    · rw [if_neg h, Bool.eq_false_iff.2 h, Bool.false_or]
      exact shut_ge a b xs (i + 1)
theorem closed_eq (l : List S28) (a b : Int) : closure_closed.f l a b = some (shut l a b) := by
  refine congrArg some ?_
  rw [Bool.eq_iff_iff, decide_eq_true_eq]
  exact shut_ge a b l 0
theorem shut_iff {l : List S28} {a b : Int} : shut l a b = true ↔ ∃ c, ∃ x ∈ l, hit a b c x := by
  unfold shut hit
  rw [List.any_eq_true]
  constructor
  · rintro ⟨x, hx, h⟩
    simp only [Bool.and_eq_true, beq_iff_eq] at h
    exact ⟨x.f2, x, hx, h.1, h.2, rfl⟩
  · rintro ⟨c, x, hx, h1, h2, _⟩
    exact ⟨x, hx, by simp [h1, h2]⟩
theorem ofv_shut (l : List S28) (a b : Int) : decide (((ofv l a b).length : Int) > 0) = shut l a b := by
  rw [Bool.eq_iff_iff, decide_eq_true_eq, shut_iff]
  constructor
  · intro h
    obtain ⟨c, hc⟩ := List.exists_mem_of_length_pos (show 0 < (ofv l a b).length by omega)
    exact ⟨c, mem_ofv.1 hc⟩
  · rintro ⟨c, hc⟩
    have := List.length_pos_of_mem (mem_ofv.2 hc)
    omega
theorem rof_shut {l : List S28} (h : Good l) (a b : Int) : decide (((rof l a b).length : Int) > 0) = shut l a b := by
  rw [← ofv_rof h, ofv_shut]
def crun (c : List S56) (l : List S28) (n : Int) : Bool := (runv c n).2.2.2.2.2.2.2 && (shut l 1 n || shut l 3 (runv c n).2.2.2.2.2.1)
theorem crun_eq (a : List S59) (b : List S76) (c : List S56) (e : List Int) (l : List S28) (n : Int) : closure_Run.f a b c e l n = some (crun c l n) := by
  unfold closure_Run.f crun
  rw [trun_eq, Option.bind_some, closed_eq, closed_eq, Option.bind_some]
  cases (runv c n).2.2.2.2.2.2.2 <;> cases shut l 1 n <;> rfl
theorem refRun_ev (a : List S59) (b : List S76) (c : List S56) (e : List Int) (hc : c.length ≤ 1000000) {l : List S28} (hl : l.length ≤ 1000000) (h : Good l) (n : Int) : Ev (fun k => skiarearef52_Run.f k a b c e l n) (crun c l n) := by
  unfold skiarearef52_Run.f crun
  refine ev_bind (run_ev a b c e hc n) ?_
  cases hr : (runv c n).2.2.2.2.2.2.2
  · exact ev_if_neg (by simp) (ev_some rfl)
  · refine ev_if_pos rfl (ev_bind (refOf_ev l hl 1 n) ?_)
    have h1 := rof_shut h 1 n
    cases hs : shut l 1 n
    · rw [hs] at h1
      refine ev_if_neg (of_decide_eq_false h1) (ev_bind (refOf_ev l hl _ _) (ev_some ?_))
      rw [rof_shut h]
      rfl
    · rw [hs] at h1
      exact ev_if_pos (of_decide_eq_true h1) (ev_some rfl)
theorem lift_eq (l : List S28) (n : Int) : closure_Lift.f l n = some (shut l 2 n) := by
  unfold closure_Lift.f
  rw [closed_eq]
  rfl
theorem refLift_ev {l : List S28} (hl : l.length ≤ 1000000) (h : Good l) (n : Int) : Ev (fun k => skiarearef52_Lift.f k l n) (shut l 2 n) := by
  unfold skiarearef52_Lift.f
  exact ev_bind (refOf_ev l hl 2 n) (ev_some (rof_shut h 2 n))
end Go.Proofs.Ytnnnjpkmdjkdjaa.Plain
