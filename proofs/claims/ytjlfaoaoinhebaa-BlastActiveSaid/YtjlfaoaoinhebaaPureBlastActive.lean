/- The plain law BlastActive. -/
import Derived.Test.YtjlfaoaoinhebaaA0
import Derived.Test.YtjlfaoaoinhebaaA25
import Derived.Test.YtjlfaoaoinhebaaA26
import Derived.Test.YtjlfaoaoinhebaaPlain
namespace Go.Proofs.Ytjlfaoaoinhebaa.Pure
open Go.RowKit Go.Proofs.YtjlfaoaoinhebaaW.PrintWords Go.Proofs.Ytjlfaoaoinhebaa.A Go.Proofs.Ytjlfaoaoinhebaa.HEv Go.Proofs.Ytjlfaoaoinhebaa.Plain
set_option linter.unusedVariables false
set_option linter.unusedSimpArgs false
theorem mem_acts {l : List S30} {s : Int} : s ∈ acts l ↔ ∃ x ∈ l, (ov x.f3 = true ∧ x.f3 ≠ 0) ∧ x.f1 = s := by
  simp only [acts, List.mem_map, List.mem_filter, Bool.and_eq_true, Bool.not_eq_true', beq_eq_false_iff_ne, ne_eq, and_assoc]
theorem nodup_acts {l : List S30} (h : Plain.Good l) : (acts l).Nodup := by
  unfold acts
  rw [List.nodup_iff_pairwise_ne, List.pairwise_map]
  have h2 := (h.2.2.2.filter fun x => ov x.f3 && !(x.f3 == 0))
  refine List.Pairwise.imp_of_mem ?_ h2
  intro a b ha hb hab
  rw [List.mem_filter, Bool.and_eq_true] at ha hb
  exact hab ha.2.1 hb.2.1
theorem le_trans_ (a b c : Int) (h1 : decide (a ≤ b) = true) (h2 : decide (b ≤ c) = true) : decide (a ≤ c) = true := by simp at h1 h2 ⊢; omega
theorem le_total_ (a b : Int) : (decide (a ≤ b) || decide (b ≤ a)) = true := by simp; omega
theorem actv_sorted {l : List S30} (h : Plain.Good l) : (actv l).Pairwise fun a b => a < b := by
  have h1 : (actv l).Pairwise fun a b => decide (a ≤ b) = true := List.pairwise_mergeSort le_trans_ le_total_ (acts l)
  have h2 : (actv l).Nodup := (List.mergeSort_perm (acts l) _).nodup_iff.2 (nodup_acts h)
  refine List.Pairwise.imp ?_ (h1.and h2)
  rintro a b ⟨h3, h4⟩
  have := of_decide_eq_true h3
  omega
theorem mem_actv {l : List S30} {s : Int} : s ∈ actv l ↔ ∃ x ∈ l, (ov x.f3 = true ∧ x.f3 ≠ 0) ∧ x.f1 = s := by
  unfold actv
  rw [List.mem_mergeSort, mem_acts]
theorem actv_pos {l : List S30} (h : Plain.Good l) {s : Int} (hs : s ∈ actv l) : 1 ≤ s := by
  obtain ⟨x, hx, _, rfl⟩ := mem_actv.1 hs
  exact ((fv_iff x).1 (h.2.1 x hx)).2.1.1
theorem actv_le (l : List S30) : (actv l).length ≤ l.length := by
  unfold actv
  rw [List.length_mergeSort]
  exact acts_le l
/-- What the inner loop has found so far, of the elements ahead of i: nothing, or the least. -/
def Seen (l : List S30) (last : Int) (i : Nat) (n : Int) : Prop := (n = 0 ∧ ∀ q, ∀ hq : q < l.length, q < i → ¬ ((ov l[q].f3 = true ∧ l[q].f3 ≠ 0) ∧ l[q].f1 > last)) ∨ (n ≠ 0 ∧ (∃ x ∈ l, (ov x.f3 = true ∧ x.f3 ≠ 0) ∧ x.f1 = n ∧ n > last) ∧ ∀ q, ∀ hq : q < l.length, q < i → (ov l[q].f3 = true ∧ l[q].f3 ≠ 0) → l[q].f1 > last → n ≤ l[q].f1)
theorem seen_next {l : List S30} {last : Int} {i : Nat} {n : Int} (hi : i < l.length) (h : Seen l last i n) (hn : ¬ ((ov l[i].f3 = true ∧ l[i].f3 ≠ 0) ∧ l[i].f1 > last) ∨ (n ≠ 0 ∧ n ≤ l[i].f1)) : Seen l last (i + 1) n := by
  rcases h with ⟨h0, h1⟩ | ⟨h0, h1, h2⟩
  · refine .inl ⟨h0, fun q hq hqi => ?_⟩
    by_cases e : q = i
    · subst e
      rcases hn with hn | hn
      · exact hn
      · exact absurd h0 hn.1
    · exact h1 q hq (by omega)
  · refine .inr ⟨h0, h1, fun q hq hqi h3 h4 => ?_⟩
    by_cases e : q = i
    · subst e
      rcases hn with hn | hn
      · exact absurd ⟨h3, h4⟩ hn
      · exact hn.2
    · exact h2 q hq (by omega) h3 h4
theorem seen_take {l : List S30} (hg : Plain.Good l) {last : Int} {i : Nat} {n : Int} (hi : i < l.length) (h : Seen l last i n) (h3 : ov l[i].f3 = true ∧ l[i].f3 ≠ 0) (h4 : l[i].f1 > last) (h5 : n = 0 ∨ l[i].f1 < n) : Seen l last (i + 1) l[i].f1 := by
  have hp := ((fv_iff _).1 (hg.2.1 _ (List.getElem_mem hi))).2.1.1
  refine .inr ⟨by omega, ⟨l[i], List.getElem_mem hi, h3, rfl, h4⟩, fun q hq hqi h6 h7 => ?_⟩
  by_cases e : q = i
  · subst e; exact Int.le_refl _
  · rcases h with ⟨h0, h1⟩ | ⟨h0, h1, h2⟩
    · exact absurd ⟨h6, h7⟩ (h1 q hq (by omega))
    · have := h2 q hq (by omega) h6 h7
      omega
theorem refActive_l1 (l : List S30) (hg : Plain.Good l) (hl : l.length ≤ 1000000) (out : List Int) (last : Int) (r : List Int)
    (hend : ∀ n, Seen l last l.length n → Ev (fun k => if n = 0 then some out else if out.length < 17592186044416 then skiarearef51_Active.l0 k l (out ++ [n]) n else none) r) :
    ∀ (d i : Nat) (n : Int), i + d = l.length → Seen l last i n → Ev (fun k => skiarearef51_Active.l1 k l out last n (i : Int)) r
  | 0, i, n, h, hs => by
    refine Ev.step (fun _ => rfl) ?_
    simp only [skiarearef51_Active.l1]
    obtain rfl : i = l.length := by omega
    exact ev_if_neg (by omega) (hend n hs)
  | d + 1, i, n, h, hs => by
    refine Ev.step (fun _ => rfl) ?_
    simp only [skiarearef51_Active.l1]
    have hi : i < l.length := by omega
    rw [rd_at l i hi, wrap_next (by omega)]
    have ih := fun n hn => refActive_l1 l hg hl out last r hend d (i + 1) n (by omega) hn
    refine ev_if_pos (by omega) (ev_if_pos (by omega) (ev_bind_some (refOpen_eq _ _ _ _ _ _ _) ?_))
    by_cases h1 : ov l[i].f3 = true
    · refine ev_if_pos h1 ?_
      by_cases h2 : l[i].f3 = 0
      · exact ev_if_pos h2 (ih n (seen_next hi hs (.inl (fun hh => hh.1.2 h2))))
      · refine ev_if_neg h2 ?_
        by_cases h3 : l[i].f1 > last
        · refine ev_if_pos h3 ?_
          by_cases h4 : n = 0
          · exact ev_if_pos h4 (ih _ (seen_take hg hi hs ⟨h1, h2⟩ h3 (.inl h4)))
          · refine ev_if_neg h4 ?_
            by_cases h5 : l[i].f1 < n
            · exact ev_if_pos h5 (ih _ (seen_take hg hi hs ⟨h1, h2⟩ h3 (.inr h5)))
            · exact ev_if_neg h5 (ih n (seen_next hi hs (.inr ⟨h4, by omega⟩)))
        · exact ev_if_neg h3 (ih n (seen_next hi hs (.inl (fun hh => h3 hh.2))))
    · exact ev_if_neg h1 (ih n (seen_next hi hs (.inl (fun hh => h1 hh.1.1))))
theorem refActive_l0 (l : List S30) (hg : Plain.Good l) (hl : l.length ≤ 1000000) : ∀ (rest out : List Int) (last : Int), actv l = out ++ rest → (∀ s ∈ out, s ≤ last) → (∀ s ∈ rest, last < s) → Ev (fun k => skiarearef51_Active.l0 k l out last) (actv l)
  | [], out, last, h, h1, h2 => by
    refine Ev.step (fun _ => rfl) ?_
    simp only [skiarearef51_Active.l0]
    refine refActive_l1 l hg hl out last _ (fun n hn => ?_) l.length 0 0 (by omega) (.inl ⟨rfl, fun q hq hqi => absurd hqi (by omega)⟩)
    rcases hn with ⟨h0, _⟩ | ⟨h0, ⟨x, hx, h3, h4, h5⟩, _⟩
    · refine ev_if_pos h0 (ev_some ?_)
      rw [h, List.append_nil]
    · have hm : n ∈ actv l := mem_actv.2 ⟨x, hx, h3, h4⟩
      rw [h, List.append_nil] at hm
      have := h1 n hm
      omega
  | y :: ys, out, last, h, h1, h2 => by
    refine Ev.step (fun _ => rfl) ?_
    simp only [skiarearef51_Active.l0]
    have hsrt := actv_sorted hg
    have hlen := actv_le l
    rw [h] at hsrt hlen
    have hy : y ∈ actv l := by rw [h]; simp
    have hys : ∀ s ∈ ys, y < s := (List.pairwise_cons.1 (List.pairwise_append.1 hsrt).2.1).1
    obtain ⟨z, hz, hz3, hz4⟩ := mem_actv.1 hy
    have ih := refActive_l0 l hg hl ys (out ++ [y]) y (by rw [h]; simp) (fun s hs => by
      rcases List.mem_append.1 hs with hs | hs
      · have := h1 s hs
        have := h2 y (by simp)
        omega
      · rw [List.mem_singleton.1 hs]; exact Int.le_refl _) hys
    refine refActive_l1 l hg hl out last _ (fun n hn => ?_) l.length 0 0 (by omega) (.inl ⟨rfl, fun q hq hqi => absurd hqi (by omega)⟩)
    obtain ⟨q, hq, rfl⟩ := List.getElem_of_mem hz
    rcases hn with ⟨h0, h9⟩ | ⟨h0, ⟨x, hx, h3, h4, h5⟩, h6⟩
    · exact absurd ⟨hz3, by have := h2 y (by simp); omega⟩ (h9 q hq hq)
    · have hle := h6 q hq hq hz3 (by have := h2 y (by simp); omega)
      have hm : n ∈ actv l := mem_actv.2 ⟨x, hx, h3, h4⟩
      rw [h] at hm
      have : n = y := by
        rcases List.mem_append.1 hm with hm | hm
        · have := h1 n hm
          omega
        · rcases List.mem_cons.1 hm with hm | hm
          · exact hm
          · have := hys n hm
            omega
      subst this
      refine ev_if_neg h0 (ev_if_pos ?_ ih)
      simp at hlen
      omega
theorem refActive_ev (l : List S30) (hg : Plain.Good l) (hl : l.length ≤ 1000000) : Ev (fun k => skiarearef51_Active.f k l) (actv l) := by
  unfold skiarearef51_Active.f
  exact refActive_l0 l hg hl (actv l) [] 0 rfl (by simp) (fun s hs => by have := actv_pos hg hs; omega)
theorem BlastActive : ∀ (l0 : List (S30)), ((∀ y ∈ l0, ok30 y) ∧ l0.length * 56 ≤ 140737488351232 ∧ l0.length ≤ 9223372036854775807) → ∃ k, skiarealaw51_BlastActive.f k l0 = some true := by
  intro l _
  refine Ev.rounds (g := fun k => skiarealaw51_BlastActive.f k l) ?_
  simp only [skiarealaw51_BlastActive.f]
  refine ev_bind alive_ev (ev_if_pos rfl (ev_bind (refRight_ev l) ?_))
  by_cases h : rv l = 0
  · have hg := rv_zero.1 h
    have hl : l.length ≤ 1000000 := Nat.le_trans hg.1 (by decide)
    exact ev_if_pos h (ev_bind (active_ev l hl) (ev_bind (refActive_ev l hg hl) (ev_bind (sameInts_refl _ (Nat.le_trans (actv_le l) hl)) (ev_some rfl))))
  · exact ev_if_neg h (ev_some rfl)
end Go.Proofs.Ytjlfaoaoinhebaa.Pure
