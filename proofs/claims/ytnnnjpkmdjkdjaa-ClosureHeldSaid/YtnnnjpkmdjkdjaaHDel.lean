/- Words for clear on a cut of a row of the call's own, behind the row's end. -/
import Derived.Test.YtnnnjpkmdjkdjaaWWords
import Derived.Lib.SliceRun
import Derived.Deep.RegionLaw
import Derived.WalkSpells
namespace Go.Proofs.Ytnnnjpkmdjkdjaa.HDel
open Go.RowKit Go.Proofs.YtnnnjpkmdjkdjaaW.PrintWords
set_option linter.unusedVariables false

theorem R_beyond {α : Type} (d : Kd α) {w : World} {base e g n c off : Nat} {ok : Nat → Prop} {xs : List α} (HO : d.R e w base ok (.slice (some ⟨g, 0, none⟩) n c) xs) (zs : List Value) (hoff : n * d.sz ≤ off) (hend : off + zs.length ≤ c * d.sz) :
    d.R e (w.setCells g off zs) base ok (.slice (some ⟨g, 0, none⟩) n c) xs ∧ w.grownBy (w.setCells g off zs) (some g) ∧ (∀ j, j < zs.length → (w.cell? ⟨g, off + j, none⟩).isSome = true) ∧ (∀ j, j < zs.length → w.frozen? ⟨g, off + j, none⟩ = false) := by
  obtain ⟨hok, inner, hown, hr⟩ := HO
  have hs := setCells_same g zs off w
  have hgr : w.grownBy (w.setCells g off zs) (some g) := ⟨hs.1, hs.2.1, hs.2.2.1, by rw [hs.2.2.2]; exact Nat.le_refl _, fun i _ hi => setCells_far zs off i (fun e_ => hi (by rw [e_]))⟩
  obtain ⟨h0, hd⟩ := hown
  rcases hd with ⟨hv, _⟩ | ⟨g', cap, cur, hv, hb, hh, h1, h2, h3, h4⟩
  · cases hv
  · injection hv with hg1 hn1 hc1
    injection hg1 with hg1
    injection hg1 with hg1 _ _
    subst hg1 hc1 hn1
    obtain ⟨cur', k1, k2, k3⟩ := setCells_row zs off w cur hh (by rw [h3]; exact hend)
    refine ⟨⟨hok, inner, ⟨h0, .inr ⟨g, c, cur', rfl, hb, k1, h1, h2, by rw [k2, h3], ?_⟩⟩, ?_⟩, hgr, fun j hj => ?_, fun j hj => ?_⟩
    · have hcl : cur.toList.length = c * d.sz := by rw [Array.length_toList, h3]
      rw [k3, List.append_assoc, List.take_append_of_le_length (by rw [List.length_take, hcl]; exact Nat.le_min.2 ⟨hoff, by omega⟩), List.take_take, Nat.min_eq_left hoff]
      exact h4
    · exact hr.imp_ (fun p q hp => Kd.M_step hp (fun k hk _ => setCells_far zs off k (fun e_ => hk.2 (by rw [e_]; rfl))))
    · have hlt : off + j < cur.size := by rw [h3]; omega
      simp [World.cell?, hh, hlt]
    · simp [World.frozen?, hh]

/-- 'clear(xs[n:n+1])' behind the end of the row of n elements. -/
theorem clear_one {P : Program} {α : Type} {W : World} (d : Kd α) (t e : TypeId) (i0 : TypeInfo) (z : Value) (zs : List Value) (ty : TypeId)
    (ht : P.underlying t = some (.slice e)) (hi : P.info? e = some i0) (hzi : i0.zero = some z) (hzc : (Builtin.zeroCells z.cells 1).toList = zs) (hzl : zs.length = d.sz) (hz1 : ∀ v ∈ zs, v.oneCell' = true)
    {base g n c off c2 k : Nat} {ok : Nat → Prop} {xs : List α} (hk : k = 1) (hoff : n * d.sz ≤ off) (hend : off + d.sz ≤ c * d.sz) (HO : d.R e W base ok (.slice (some ⟨g, 0, none⟩) n c) xs) :
    ∃ w1, (Builtin.clear_ #[t] ty #[.slice (some ⟨g, off, none⟩) k c2]).run P W = .ok (.tuple #[]) w1 ∧ d.R e w1 base ok (.slice (some ⟨g, 0, none⟩) n c) xs ∧ W.grownBy w1 (some g) := by
  subst hk
  obtain ⟨h1, h2, h3, h4⟩ := R_beyond d HO zs hoff (by rw [hzl]; exact hend)
  have hst := run_storeCells_cells (P := P) g off zs 0 W (by simpa using h3) (by simpa using h4) hz1
  simp only [Nat.add_zero] at hst
  have hzv : ∀ w, (zeroValue e).run P w = .ok z w := fun w => by simp [zeroValue, typeInfo, hi, hzi]
  exact ⟨_, by simp [Builtin.clear_, run_underlying ht, hzv, hzc, hst], h1, h2⟩
end Go.Proofs.Ytnnnjpkmdjkdjaa.HDel
