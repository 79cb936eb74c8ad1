/- The closures' plain laws: the reference's Right of a map answers at all; a run of the map; closed targets. -/
import Derived.Test.YtnnnjpkmdjkdjaaA0
import Derived.Test.YtnnnjpkmdjkdjaaA12
import Derived.Test.YtnnnjpkmdjkdjaaA13
import Derived.Test.YtnnnjpkmdjkdjaaA14
import Derived.Test.YtnnnjpkmdjkdjaaA18
import Derived.Test.YtnnnjpkmdjkdjaaA19
import Derived.Test.YtnnnjpkmdjkdjaaA20
import Derived.Test.YtnnnjpkmdjkdjaaA21
import Derived.Test.YtnnnjpkmdjkdjaaA22
import Derived.Test.YtnnnjpkmdjkdjaaA23
import Derived.Test.YtnnnjpkmdjkdjaaPlain
namespace Go.Proofs.Ytnnnjpkmdjkdjaa.Plain
open Go.RowKit Go.Proofs.YtnnnjpkmdjkdjaaW.PrintWords Go.Proofs.Ytnnnjpkmdjkdjaa.A Go.Proofs.Ytnnnjpkmdjkdjaa.HEv
set_option linter.unusedVariables false
set_option linter.unusedSimpArgs false

/-- An answer at all. -/
def Tot {α : Type} (g : Nat → Option α) : Prop := ∃ v, Ev g v
section
variable {α β : Type}
theorem tot_some (a : α) : Tot (fun _ => some a) := ⟨a, ev_some rfl⟩
theorem tot_ite {c : Prop} [Decidable c] {g f : Nat → Option α} (h1 : c → Tot g) (h2 : ¬ c → Tot f) : Tot (fun n => if c then g n else f n) := by
  by_cases h : c
  · obtain ⟨v, hv⟩ := h1 h
    exact ⟨v, ev_if_pos h hv⟩
  · obtain ⟨v, hv⟩ := h2 h
    exact ⟨v, ev_if_neg h hv⟩
theorem tot_bind {g : Nat → Option β} {f : Nat → β → Option α} (h : Tot g) (k : ∀ a, Tot (fun n => f n a)) : Tot (fun n => (g n).bind (f n)) := by
  obtain ⟨a, ha⟩ := h
  obtain ⟨v, hv⟩ := k a
  exact ⟨v, ev_bind ha hv⟩
theorem tot_bind_some {o : Option β} {f : Nat → β → Option α} {a : β} (h : o = some a) (k : Tot (fun n => f n a)) : Tot (fun n => o.bind (f n)) := by
  obtain ⟨v, hv⟩ := k
  exact ⟨v, ev_bind_some h hv⟩
theorem tot_step {f g : Nat → Option α} (h : ∀ n, f (n + 1) = g n) (k : Tot g) : Tot f := by
  obtain ⟨v, hv⟩ := k
  exact ⟨v, Ev.step h hv⟩
end

def inb (a b c : Int) : Bool := (skiarearef10_in.f a b c).getD false
theorem in_eq (a b c : Int) : skiarearef10_in.f a b c = some (inb a b c) := by
  unfold inb skiarearef10_in.f
  split <;> rfl
theorem inb_iff (a b c : Int) : inb a b c = true ↔ b ≤ a ∧ a ≤ c := by
  unfold inb skiarearef10_in.f
  split <;> simp <;> omega
theorem wrap_pred {i : Nat} (h : i ≤ 4611686018427387904) : wrap64 ((i : Int) - 1) = (i : Int) - 1 := HEv.wrap_small (by omega) (by omega)

theorem nodes_j1 (l : List S59) (hl : l.length ≤ 1000000) (i : Nat) (hi : i < l.length) (b : Bool) (hn : Tot (fun k => skiarearef10_nodes.l0 k l (wrap64 ((i : Int) + 1)))) : Tot (fun k => skiarearef10_nodes.j1 k l (i : Int) b) := by
  refine tot_step (fun _ => rfl) ?_
  simp only [skiarearef10_nodes.j1]
  rw [wrap_pred (by omega)]
  refine tot_ite (fun _ => tot_some _) (fun _ => tot_ite (fun h => tot_ite (fun _ => tot_ite (fun _ => tot_ite (fun _ => tot_ite (fun _ => tot_ite (fun _ => tot_some _) (fun _ => hn)) (fun h => absurd h (by omega))) (fun h => absurd h (by omega))) (fun h => absurd h (by omega))) (fun h => absurd h (by omega))) (fun _ => hn))
theorem nodes_l0 (l : List S59) (hl : l.length ≤ 1000000) : ∀ (d i : Nat), i + d = l.length → Tot (fun k => skiarearef10_nodes.l0 k l (i : Int))
  | 0, i, h => by
    refine tot_step (fun _ => rfl) ?_
    simp only [skiarearef10_nodes.l0]
    exact tot_ite (fun h => absurd h (by omega)) (fun _ => tot_some _)
  | d + 1, i, h => by
    refine tot_step (fun _ => rfl) ?_
    simp only [skiarearef10_nodes.l0]
    have hn : Tot (fun k => skiarearef10_nodes.l0 k l (wrap64 ((i : Int) + 1))) := by rw [wrap_next (by omega)]; exact nodes_l0 l hl d (i + 1) (by omega)
    refine tot_ite (fun _ => tot_ite (fun _ => tot_bind_some (in_eq _ _ _) (tot_ite (fun _ => tot_bind_some (in_eq _ _ _) ?_) (fun _ => ?_))) (fun h => absurd h (by omega))) (fun h => absurd h (by omega))
    all_goals exact nodes_j1 l hl i (by omega) _ hn
theorem node_l0 (a b c e) (hl : (a : List S59).length ≤ 1000000) (n : Int) : ∀ (d i : Nat), i + d = a.length → Tot (fun k => skiarearef10_Node.l0 k n (i : Int) a b c e)
  | 0, i, h => by
    refine tot_step (fun _ => rfl) ?_
    simp only [skiarearef10_Node.l0]
    exact tot_ite (fun h => absurd h (by omega)) (fun _ => tot_some _)
  | d + 1, i, h => by
    refine tot_step (fun _ => rfl) ?_
    simp only [skiarearef10_Node.l0]
    refine tot_ite (fun _ => tot_ite (fun _ => tot_ite (fun _ => tot_some _) (fun _ => ?_)) (fun h => absurd h (by omega))) (fun h => absurd h (by omega))
    rw [wrap_next (by omega)]
    exact node_l0 a b c e hl n d (i + 1) (by omega)
theorem node_tot (a b c e) (hl : (a : List S59).length ≤ 1000000) (n : Int) : Tot (fun k => skiarearef10_Node.f k a b c e n) := by
  unfold skiarearef10_Node.f
  exact node_l0 a b c e hl n a.length 0 (by omega)
theorem rises_tot (a b c e) (hl : (a : List S59).length ≤ 1000000) (x y : Int) : Tot (fun k => skiarearef10_rises.f k a b c e x y) := by
  unfold skiarearef10_rises.f
  have hj : ∀ p q r s t, Tot (fun k => skiarearef10_rises.j0 k p q r s t) := fun p q r s t => by
    refine tot_step (fun _ => rfl) ?_
    simp only [skiarearef10_rises.j0]
    exact tot_ite (fun _ => tot_some _) (fun _ => tot_ite (fun _ => tot_some _) (fun _ => tot_some _))
  exact tot_bind (node_tot a b c e hl x) (fun _ => tot_bind (node_tot a b c e hl y) (fun _ => tot_ite (fun _ => hj _ _ _ _ _) (fun _ => hj _ _ _ _ _)))
theorem carriers_tot (x0 x1 x2 x3 x4 x5 x6 x7 : Int) (h : x7 ≠ 0) : ∃ v, skiarearef10_carriers.f x0 x1 x2 x3 x4 x5 x6 x7 = some v := by
  unfold skiarearef10_carriers.f
  rw [if_neg h]
  split
  · exact ⟨_, by rw [in_eq]; rfl⟩
  · exact ⟨_, rfl⟩
theorem lifts_j2 (a b c e) (ha : (a : List S59).length ≤ 1000000) (i : Nat) (s : Bool) (x0 x1 x2 x3 x4 x5 x6 x7 : Int) (h7 : x7 ≠ 0) (hn : Tot (fun k => skiarearef10_lifts.l0 k (wrap64 ((i : Int) + 1)) a b c e)) : Tot (fun k => skiarearef10_lifts.j2 k (i : Int) s a b c e x0 x1 x2 x3 x4 x5 x6 x7) := by
  refine tot_step (fun _ => rfl) ?_
  simp only [skiarearef10_lifts.j2]
  obtain ⟨v, hv⟩ := carriers_tot x0 x1 x2 x3 x4 x5 x6 x7 h7
  exact tot_ite (fun _ => tot_some _) (fun _ => tot_bind (rises_tot a b c e ha _ _) (fun t => tot_ite (fun _ => tot_bind_some hv (tot_ite (fun _ => hn) (fun _ => tot_some _))) (fun _ => tot_some _)))
theorem lifts_j1 (a b c e) (ha : (a : List S59).length ≤ 1000000) (hb : (b : List S76).length ≤ 1000000) (i : Nat) (hi : i < b.length) (s : Bool) (x0 x1 x2 x3 x4 x5 x6 x7 : Int) (h7 : s = false → x7 ≠ 0) (hn : Tot (fun k => skiarearef10_lifts.l0 k (wrap64 ((i : Int) + 1)) a b c e)) : Tot (fun k => skiarearef10_lifts.j1 k (i : Int) s a b c e x0 x1 x2 x3 x4 x5 x6 x7) := by
  refine tot_step (fun _ => rfl) ?_
  simp only [skiarearef10_lifts.j1]
  rw [wrap_pred (by omega)]
  refine tot_ite (fun _ => tot_some _) (fun hs => ?_)
  have h := h7 (Bool.eq_false_iff.2 hs)
  exact tot_ite (fun _ => tot_ite (fun _ => tot_ite (fun _ => lifts_j2 a b c e ha i _ _ _ _ _ _ _ _ _ h hn) (fun h => absurd h (by omega))) (fun h => absurd h (by omega))) (fun _ => lifts_j2 a b c e ha i _ _ _ _ _ _ _ _ _ h hn)
theorem lifts_l0 (a b c e) (ha : (a : List S59).length ≤ 1000000) (hb : (b : List S76).length ≤ 1000000) : ∀ (d i : Nat), i + d = b.length → Tot (fun k => skiarearef10_lifts.l0 k (i : Int) a b c e)
  | 0, i, h => by
    refine tot_step (fun _ => rfl) ?_
    simp only [skiarearef10_lifts.l0]
    exact tot_ite (fun h => absurd h (by omega)) (fun _ => tot_some _)
  | d + 1, i, h => by
    refine tot_step (fun _ => rfl) ?_
    simp only [skiarearef10_lifts.l0]
    have hn : Tot (fun k => skiarearef10_lifts.l0 k (wrap64 ((i : Int) + 1)) a b c e) := by rw [wrap_next (by omega)]; exact lifts_l0 a b c e ha hb d (i + 1) (by omega)
    have hj : ∀ s x0 x1 x2 x3 x4 x5 x6 x7, (s = false → x7 ≠ 0) → Tot (fun k => skiarearef10_lifts.j1 k (i : Int) s a b c e x0 x1 x2 x3 x4 x5 x6 x7) := fun s x0 x1 x2 x3 x4 x5 x6 x7 h7 => lifts_j1 a b c e ha hb i (by omega) s x0 x1 x2 x3 x4 x5 x6 x7 h7 hn
    refine tot_ite (fun _ => tot_ite (fun _ => tot_bind_some (in_eq _ _ _) (tot_ite (fun _ => tot_bind_some (in_eq _ _ _) (tot_ite (fun _ => tot_bind_some (in_eq _ _ _) (tot_ite (fun _ => tot_bind_some (in_eq _ _ _) (tot_ite (fun _ => tot_bind_some (in_eq _ _ _) (tot_ite (fun _ => tot_bind_some (in_eq _ _ _) (hj _ _ _ _ _ _ _ _ _ (fun h9 => ?_))) (fun _ => hj _ _ _ _ _ _ _ _ _ (by simp)))) (fun _ => hj _ _ _ _ _ _ _ _ _ (by simp)))) (fun _ => hj _ _ _ _ _ _ _ _ _ (by simp)))) (fun _ => hj _ _ _ _ _ _ _ _ _ (by simp)))) (fun _ => hj _ _ _ _ _ _ _ _ _ (by simp)))) (fun h => absurd h (by omega))) (fun h => absurd h (by omega))
    have := (inb_iff _ _ _).1 (by simpa using h9)
    omega
theorem bases_l1 (a b c e) (hl : (e : List Int).length ≤ 1000000) : ∀ (d i : Nat), 1 ≤ i → i + d = e.length → Tot (fun k => skiarearef10_bases.l1 k (i : Int) a b c e)
  | 0, i, h1, h => by
    refine tot_step (fun _ => rfl) ?_
    simp only [skiarearef10_bases.l1]
    exact tot_ite (fun h => absurd h (by omega)) (fun _ => tot_some _)
  | d + 1, i, h1, h => by
    refine tot_step (fun _ => rfl) ?_
    simp only [skiarearef10_bases.l1]
    rw [wrap_pred (by omega), wrap_next (by omega)]
    exact tot_ite (fun _ => tot_ite (fun _ => tot_ite (fun _ => tot_ite (fun _ => tot_ite (fun _ => tot_some _) (fun _ => bases_l1 a b c e hl d (i + 1) (by omega) (by omega))) (fun h => absurd h (by omega))) (fun h => absurd h (by omega))) (fun h => absurd h (by omega))) (fun h => absurd h (by omega))
theorem bases_l0 (a b c e) (ha : (a : List S59).length ≤ 1000000) (hl : (e : List Int).length ≤ 1000000) (hne : 1 ≤ e.length) : ∀ (d i : Nat), i + d = e.length → Tot (fun k => skiarearef10_bases.l0 k (i : Int) a b c e)
  | 0, i, h => by
    refine tot_step (fun _ => rfl) ?_
    simp only [skiarearef10_bases.l0]
    exact tot_ite (fun h => absurd h (by omega)) (fun _ => bases_l1 a b c e hl (e.length - 1) 1 (by omega) (by omega))
  | d + 1, i, h => by
    refine tot_step (fun _ => rfl) ?_
    simp only [skiarearef10_bases.l0]
    rw [wrap_next (by omega)]
    exact tot_ite (fun _ => tot_ite (fun _ => tot_bind (node_tot a b c e ha _) (fun _ => tot_ite (fun _ => bases_l0 a b c e ha hl hne d (i + 1) (by omega)) (fun _ => tot_some _))) (fun h => absurd h (by omega))) (fun h => absurd h (by omega))
def runv (c : List S56) (n : Int) : Int × Int × Int × Int × Int × Int × Int × Bool := terrain_Run.at c (terrain_Run.idx (terrain_Run.pr n) 0 c)
theorem trun_eq (a : List S59) (b : List S76) (c : List S56) (e : List Int) (n : Int) : terrain_Run.f a b c e n = some (runv c n) := rfl

def shut (l : List S28) (a b : Int) : Bool := l.any fun x => x.f0 == a && x.f1 == b
theorem shut_ge (a b : Int) : ∀ (l : List S28) (i : Nat), 0 ≤ closure_closed.idx (closure_closed.pr a b) i l ↔ shut l a b = true
  | [], i => by
    have e1 : closure_closed.idx (closure_closed.pr a b) i [] = -1 := rfl
    have e2 : shut [] a b = false := rfl
    rw [e1, e2]
    simp
  | x :: xs, i => by
    have e1 : closure_closed.idx (closure_closed.pr a b) i (x :: xs) = if closure_closed.pr a b x = true then (i : Int) else closure_closed.idx (closure_closed.pr a b) (i + 1) xs := rfl
    have e2 : shut (x :: xs) a b = (closure_closed.pr a b x || shut xs a b) := rfl
    rw [e1, e2]
    by_cases h : closure_closed.pr a b x = true
    · rw [if_pos h, h]
      simp
    · rw [if_neg h, Bool.eq_false_iff.2 h, Bool.false_or]
      exact shut_ge a b xs (i + 1)
theorem closed_eq (l : List S28) (a b : Int) : closure_closed.f l a b = some (shut l a b) := by
  refine congrArg some ?_
  rw [Bool.eq_iff_iff, decide_eq_true_eq]
  exact shut_ge a b l 0
theorem shut_iff {l : List S28} {a b : Int} : shut l a b = true ↔ ∃ c, ∃ x ∈ l, hit a b c x := by
  unfold shut hit
  rw [List.any_eq_true]
  constructor
  · rintro ⟨x, hx, h⟩
    simp only [Bool.and_eq_true, beq_iff_eq] at h
    exact ⟨x.f2, x, hx, h.1, h.2, rfl⟩
  · rintro ⟨c, x, hx, h1, h2, _⟩
    exact ⟨x, hx, by simp [h1, h2]⟩
theorem ofv_shut (l : List S28) (a b : Int) : decide (((ofv l a b).length : Int) > 0) = shut l a b := by
  rw [Bool.eq_iff_iff, decide_eq_true_eq, shut_iff]
  constructor
  · intro h
    obtain ⟨c, hc⟩ := List.exists_mem_of_length_pos (show 0 < (ofv l a b).length by omega)
    exact ⟨c, mem_ofv.1 hc⟩
  · rintro ⟨c, hc⟩
    have := List.length_pos_of_mem (mem_ofv.2 hc)
    omega
def crun (c : List S56) (l : List S28) (n : Int) : Bool := (runv c n).2.2.2.2.2.2.2 && (shut l 1 n || shut l 3 (runv c n).2.2.2.2.2.1)
theorem crun_eq (a : List S59) (b : List S76) (c : List S56) (e : List Int) (l : List S28) (n : Int) : closure_Run.f a b c e l n = some (crun c l n) := by
  unfold closure_Run.f crun
  rw [trun_eq, Option.bind_some, closed_eq, closed_eq, Option.bind_some]
  cases (runv c n).2.2.2.2.2.2.2 <;> cases shut l 1 n <;> rfl
theorem lift_eq (l : List S28) (n : Int) : closure_Lift.f l n = some (shut l 2 n) := by
  unfold closure_Lift.f
  rw [closed_eq]
  rfl
end Go.Proofs.Ytnnnjpkmdjkdjaa.Plain
