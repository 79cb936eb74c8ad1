-- PRINTED by print.py (a twelfth state) out of the translation. Not trusted: Lean checks it.
import Derived.Test.YtjlfaoaoinhebaaA0
namespace Go.Proofs.Ytjlfaoaoinhebaa.A
open Go.RowKit Go.Proofs.YtjlfaoaoinhebaaW.PrintWords Go.Proofs.YtjlfaoaoinhebaaW.PrintLast Go.Proofs.YtjlfaoaoinhebaaW.PrintMore
attribute [local go_sem] max2_int min2_int max_two min_two max_three min_three max_four min_four   -- for this text's walks alone
set_option linter.unusedVariables false
set_option linter.unusedSimpArgs false

-- by hand: slices.Sort.tpl
def slices_Sort_int_int.f (l0 : List Int) : Option (List Int) := if l0.length < 4611686018427387904 then some (l0.mergeSort fun x y => decide (x ≤ y)) else none
theorem slices_Sort_int_int.reps_ints {R : Int → List Value → Prop} (hR : ∀ x cs, R x cs → cs = [Value.int .i64 x]) {xs : List Int} {inner : List Value} (h : Reps R 1 xs inner) : inner = xs.map (Value.int .i64) := by
  apply List.ext_getElem?
  intro j
  by_cases hj : j < xs.length
  · have h1 := h.2 j _ (List.getElem?_eq_getElem hj)
    have h2 := hR _ _ h1
    have h3 : (((inner.drop (j * 1)).take 1))[0]? = ([Value.int .i64 xs[j]] : List Value)[0]? := by rw [h2]
    rw [Nat.mul_one, List.getElem?_take_of_lt (by omega), List.getElem?_drop] at h3
    simpa [hj] using h3
  · have := h.1
    rw [List.getElem?_eq_none (by omega), List.getElem?_eq_none (by simp; omega)]
theorem slices_Sort_int_int.ints_reps (xs : List Int) (R : Int → List Value → Prop) (hR : ∀ x, R x [Value.int .i64 x]) : Reps R 1 xs (xs.map (Value.int .i64)) := by
  induction xs with
  | nil => exact Reps.none _ _
  | cons x xs ih => exact Reps.one (hR x) ih
open Go.Sort in
theorem slices_Sort_int_int.calls (P0_ : Nat → Prop) (u9000_ : Value) (l0 : List Int) (r : List Int) (w0 w : World) (hB : Below w0.heap.size w0 w) (ho0 : Kd.R (Kd.int .i64) 3 w w0.heap.size P0_ u9000_ l0) (h : slices_Sort_int_int.f l0 = some r) :
    Calls Try.prog 51 #[u9000_] w fun e w' => e = .returned (.tuple #[]) ∧ Kd.R (Kd.int .i64) 3 w' w0.heap.size (fun k_ => (P0_ k_ ∨ w.heap.size ≤ k_)) u9000_ r ∧ Below w0.heap.size w0 w' ∧ Kept w w' (fun k_ => P0_ k_) := by
  unfold slices_Sort_int_int.f at h
  split at h
  · rename_i hlt
    obtain rfl := Option.some.inj h
    obtain ⟨hok, inner, hown, hr⟩ := ho0
    have hin := slices_Sort_int_int.reps_ints (fun _ _ hx => hx) hr
    subst hin
    rcases hown.2 with ⟨rfl, hnil⟩ | ⟨g, cap, cur, rfl, hg, hb, h1, h2, h3, h4⟩
    · have hz : l0 = [] := by cases l0 with | nil => rfl | cons x xs => simp at hnil
      subst hz
      refine (Try.slices_Sort_int_none none 0 w).mono ?_
      rintro e w' ⟨rfl, rfl⟩
      exact ⟨rfl, by simpa using Kd.R_nil _ _ _ _ _, hB, Kept.refl _ _⟩
    · have h4' : cur.toList.take l0.length = l0.map (Value.int .i64) := by
        have h5 : cur.toList.take (l0.length * 1) = l0.map (Value.int .i64) := h4
        rwa [Nat.mul_one] at h5
      refine (Try.slices_Sort_int g 0 cap l0 w (holds_of_blockI hb h4') (Array.getElem?_eq_some_iff.1 hb).1 hlt).mono ?_
      rintro e w' ⟨rfl, nn, os, rfl⟩
      have hgr := grownBy_sortedI (w := w) (g := g) (n := nn) (os := os) (l0.mergeSort fun x y => decide (x ≤ y)).toArray
      have hlen : (l0.mergeSort fun x y => decide (x ≤ y)).length = l0.length := by simp
      refine ⟨rfl, ⟨fun k hk => .inl (hok k hk), _, ?_, slices_Sort_int_int.ints_reps _ _ (fun _ => rfl)⟩, hB.grown hgr hB.size (fun j hj => by cases hj; exact hg), Kept.of_grown hgr (Kept.refl _ _) (fun k hk => .inl (hok k (by rw [← hk]; rfl)))⟩
      rw [hlen]
      exact ownsRow_sortedI hlen hg hb h1 h2 h3
  · cases h

end Go.Proofs.Ytjlfaoaoinhebaa.A
