-- PRINTED by print.py (a twelfth state) out of the translation. Not trusted: Lean checks it.
import Derived.Test.YtjlfaoaoinhebaaA0
import Derived.Test.YtjlfaoaoinhebaaA1
import Derived.Test.YtjlfaoaoinhebaaA2
import Derived.Test.YtjlfaoaoinhebaaA4
import Derived.Test.YtjlfaoaoinhebaaA17
import Derived.Test.YtjlfaoaoinhebaaA31
namespace Go.Proofs.Ytjlfaoaoinhebaa.A
open Go.RowKit Go.Proofs.YtjlfaoaoinhebaaW.PrintWords Go.Proofs.YtjlfaoaoinhebaaW.PrintLast Go.Proofs.YtjlfaoaoinhebaaW.PrintMore
attribute [local go_sem] max2_int min2_int max_two min_two max_three min_three max_four min_four   -- for this text's walks alone
set_option linter.unusedVariables false
set_option linter.unusedSimpArgs false

attribute [local go_sem high] eqA28 eqA30
mutual
def skiarealaw51_BlastOthers.j0 : Nat → List (S30) → List (S46) → Bool → Option (Bool)
  | 0, _, _, _ => none
  | k + 1, x0, x1, x21 => if x21 = true then (some true) else (skiarealaw51_BlastOthers.l0 k x1 x0 0)
def skiarealaw51_BlastOthers.l0 : Nat → List (S46) → List (S30) → Int → Option (Bool)
  | 0, _, _, _ => none
  | k + 1, x1, x5, x6 => if x6 < (x1.length : Int) then (if 0 ≤ x6 then ((skiarealaw51_do.f x5 ((rd_T46 x1 x6).f0) ((rd_T46 x1 x6).f1) ((rd_T46 x1 x6).f2) ((rd_T46 x1 x6).f3) ((rd_T46 x1 x6).f4) ((rd_T46 x1 x6).f5) ((rd_T46 x1 x6).f6) ((rd_T46 x1 x6).f7) ((rd_T46 x1 x6).f8)).bind fun bt482 => (if bt482.2 = true then ((blast_Right.f bt482.1).bind fun t486 => (if t486 = 0 then (if (bt482.1.length : Int) < (x5.length : Int) then (none) else (if (bt482.1.length : Int) > (wrap64 ((x5.length : Int) + 1)) then (none) else (skiarealaw51_BlastOthers.j2 k x1 x5 x6 bt482.1 ((decide ((bt482.1.length : Int) > (x5.length : Int))) != (((rd_T46 x1 x6).f0) == 0))))) else (none))) else (skiarealaw51_BlastOthers.l0 k x1 x5 (wrap64 (x6 + 1))))) else (none)) else (some true)
def skiarealaw51_BlastOthers.j2 : Nat → List (S46) → List (S30) → Int → List (S30) → Bool → Option (Bool)
  | 0, _, _, _, _, _ => none
  | k + 1, x1, x5, x6, x7, x71 => if x71 = true then (none) else (skiarealaw51_BlastOthers.l1 k x1 x5 x6 x7 0)
def skiarealaw51_BlastOthers.l1 : Nat → List (S46) → List (S30) → Int → List (S30) → Int → Option (Bool)
  | 0, _, _, _, _, _ => none
  | k + 1, x1, x5, x6, x7, x9 => if x9 < (x5.length : Int) then (if 0 ≤ x9 then (if x9 < (x7.length : Int) then (if 0 ≤ x6 then (if x6 < (x1.length : Int) then (if ((rd_T30 x5 x9).f0) = ((rd_T46 x1 x6).f1) then (if ((rd_T30 x5 x9).f0) = ((rd_T30 x7 x9).f0) then (if ((rd_T30 x5 x9).f1) = ((rd_T30 x7 x9).f1) then (if ((rd_T30 x5 x9).f2) = ((rd_T30 x7 x9).f2) then (if (!(((rd_T30 x5 x9).f5.f0) == ((rd_T30 x7 x9).f5.f0)) || (!(((rd_T30 x5 x9).f5.f1) == ((rd_T30 x7 x9).f5.f1)))) = true then (none) else (skiarealaw51_BlastOthers.l1 k x1 x5 x6 x7 (wrap64 (x9 + 1)))) else (none)) else (none)) else (none)) else (if (!(((rd_T30 x5 x9).f0) == ((rd_T30 x7 x9).f0)) || (!(((rd_T30 x5 x9).f1) == ((rd_T30 x7 x9).f1)) || (!(((rd_T30 x5 x9).f2) == ((rd_T30 x7 x9).f2)) || (!(((rd_T30 x5 x9).f3) == ((rd_T30 x7 x9).f3)) || (!(((rd_T30 x5 x9).f4) == ((rd_T30 x7 x9).f4)) || ((!(((rd_T30 x5 x9).f5.f0) == ((rd_T30 x7 x9).f5.f0)) || (!(((rd_T30 x5 x9).f5.f1) == ((rd_T30 x7 x9).f5.f1)))))))))) = true then (none) else (if ((rd_T30 x5 x9).f0) = ((rd_T30 x7 x9).f0) then (if ((rd_T30 x5 x9).f1) = ((rd_T30 x7 x9).f1) then (if ((rd_T30 x5 x9).f2) = ((rd_T30 x7 x9).f2) then (if (!(((rd_T30 x5 x9).f5.f0) == ((rd_T30 x7 x9).f5.f0)) || (!(((rd_T30 x5 x9).f5.f1) == ((rd_T30 x7 x9).f5.f1)))) = true then (none) else (skiarealaw51_BlastOthers.l1 k x1 x5 x6 x7 (wrap64 (x9 + 1)))) else (none)) else (none)) else (none)))) else (none)) else (none)) else (none)) else (none)) else (skiarealaw51_BlastOthers.l0 k x1 x7 (wrap64 (x6 + 1)))
end
def skiarealaw51_BlastOthers.f (k : Nat) (l0 : List (S30)) (l1 : List (S46)) : Option (Bool) := (skiarealaw51_alive.f k).bind fun t479 => (if t479 = true then ((blast_Right.f l0).bind fun t480 => (if t480 = 0 then (skiarealaw51_BlastOthers.j0 k l0 l1 (decide ((l1.length : Int) > 40))) else (skiarealaw51_BlastOthers.j0 k l0 l1 true))) else (none))
theorem skiarealaw51_BlastOthers.mono_l : ∀ k, (∀ y0 y1 y2, LeO (skiarealaw51_BlastOthers.j0 k y0 y1 y2) (skiarealaw51_BlastOthers.j0 (k + 1) y0 y1 y2)) ∧ (∀ y0 y1 y2, LeO (skiarealaw51_BlastOthers.l0 k y0 y1 y2) (skiarealaw51_BlastOthers.l0 (k + 1) y0 y1 y2)) ∧ (∀ y0 y1 y2 y3 y4, LeO (skiarealaw51_BlastOthers.j2 k y0 y1 y2 y3 y4) (skiarealaw51_BlastOthers.j2 (k + 1) y0 y1 y2 y3 y4)) ∧ (∀ y0 y1 y2 y3 y4, LeO (skiarealaw51_BlastOthers.l1 k y0 y1 y2 y3 y4) (skiarealaw51_BlastOthers.l1 (k + 1) y0 y1 y2 y3 y4))
  | 0 => ⟨fun _ _ _ r h => by simp [skiarealaw51_BlastOthers.j0] at h, fun _ _ _ r h => by simp [skiarealaw51_BlastOthers.l0] at h, fun _ _ _ _ _ r h => by simp [skiarealaw51_BlastOthers.j2] at h, fun _ _ _ _ _ r h => by simp [skiarealaw51_BlastOthers.l1] at h⟩
  | k + 1 => by
    obtain ⟨ih0, ih1, ih2, ih3⟩ := skiarealaw51_BlastOthers.mono_l k
    refine ⟨?_, ?_, ?_, ?_⟩
    · intro y0 y1 y2
      unfold skiarealaw51_BlastOthers.j0
      repeat' first
      | (with_reducible exact ih0 _ _ _)
      | (with_reducible exact ih1 _ _ _)
      | (with_reducible exact ih2 _ _ _ _ _)
      | (with_reducible exact ih3 _ _ _ _ _)
      | (with_reducible exact skiarealaw51_alive.mono _)
      | (with_reducible exact LeO.refl _)
      | (with_reducible exact LeO.none _)
      | (with_reducible refine LeO.ite ?_ ?_)
      | (with_reducible refine LeO.bind ?_ (fun _ => ?_))
      | exact ih0 _ _ _
      | exact ih1 _ _ _
      | exact ih2 _ _ _ _ _
      | exact ih3 _ _ _ _ _
      | exact skiarealaw51_alive.mono _
      | exact LeO.none _
      | refine LeO.ite ?_ ?_
      | refine LeO.bind ?_ (fun _ => ?_)
    · intro y0 y1 y2
      unfold skiarealaw51_BlastOthers.l0
      repeat' first
      | (with_reducible exact ih0 _ _ _)
      | (with_reducible exact ih1 _ _ _)
      | (with_reducible exact ih2 _ _ _ _ _)
      | (with_reducible exact ih3 _ _ _ _ _)
      | (with_reducible exact skiarealaw51_alive.mono _)
      | (with_reducible exact LeO.refl _)
      | (with_reducible exact LeO.none _)
      | (with_reducible refine LeO.ite ?_ ?_)
      | (with_reducible refine LeO.bind ?_ (fun _ => ?_))
      | exact ih0 _ _ _
      | exact ih1 _ _ _
      | exact ih2 _ _ _ _ _
      | exact ih3 _ _ _ _ _
      | exact skiarealaw51_alive.mono _
      | exact LeO.none _
      | refine LeO.ite ?_ ?_
      | refine LeO.bind ?_ (fun _ => ?_)
    · intro y0 y1 y2 y3 y4
      unfold skiarealaw51_BlastOthers.j2
      repeat' first
      | (with_reducible exact ih0 _ _ _)
      | (with_reducible exact ih1 _ _ _)
      | (with_reducible exact ih2 _ _ _ _ _)
      | (with_reducible exact ih3 _ _ _ _ _)
      | (with_reducible exact skiarealaw51_alive.mono _)
      | (with_reducible exact LeO.refl _)
      | (with_reducible exact LeO.none _)
      | (with_reducible refine LeO.ite ?_ ?_)
      | (with_reducible refine LeO.bind ?_ (fun _ => ?_))
      | exact ih0 _ _ _
      | exact ih1 _ _ _
      | exact ih2 _ _ _ _ _
      | exact ih3 _ _ _ _ _
      | exact skiarealaw51_alive.mono _
      | exact LeO.none _
      | refine LeO.ite ?_ ?_
      | refine LeO.bind ?_ (fun _ => ?_)
    · intro y0 y1 y2 y3 y4
      unfold skiarealaw51_BlastOthers.l1
      repeat' first
      | (with_reducible exact ih0 _ _ _)
      | (with_reducible exact ih1 _ _ _)
      | (with_reducible exact ih2 _ _ _ _ _)
      | (with_reducible exact ih3 _ _ _ _ _)
      | (with_reducible exact skiarealaw51_alive.mono _)
      | (with_reducible exact LeO.refl _)
      | (with_reducible exact LeO.none _)
      | (with_reducible refine LeO.ite ?_ ?_)
      | (with_reducible refine LeO.bind ?_ (fun _ => ?_))
      | exact ih0 _ _ _
      | exact ih1 _ _ _
      | exact ih2 _ _ _ _ _
      | exact ih3 _ _ _ _ _
      | exact skiarealaw51_alive.mono _
      | exact LeO.none _
      | refine LeO.ite ?_ ?_
      | refine LeO.bind ?_ (fun _ => ?_)
theorem skiarealaw51_BlastOthers.mono : ∀ a0 a1 k, LeO (skiarealaw51_BlastOthers.f k a0 a1) (skiarealaw51_BlastOthers.f (k + 1) a0 a1) := by
  intro a0 a1 k
  obtain ⟨ih0, ih1, ih2, ih3⟩ := skiarealaw51_BlastOthers.mono_l k
  unfold skiarealaw51_BlastOthers.f
  repeat' first
      | (with_reducible exact ih0 _ _ _)
      | (with_reducible exact ih1 _ _ _)
      | (with_reducible exact ih2 _ _ _ _ _)
      | (with_reducible exact ih3 _ _ _ _ _)
      | (with_reducible exact skiarealaw51_alive.mono _)
      | (with_reducible exact LeO.refl _)
      | (with_reducible exact LeO.none _)
      | (with_reducible refine LeO.ite ?_ ?_)
      | (with_reducible refine LeO.bind ?_ (fun _ => ?_))
      | exact ih0 _ _ _
      | exact ih1 _ _ _
      | exact ih2 _ _ _ _ _
      | exact ih3 _ _ _ _ _
      | exact skiarealaw51_alive.mono _
      | exact LeO.none _
      | refine LeO.ite ?_ ?_
      | refine LeO.bind ?_ (fun _ => ?_)
def skiarealaw51_BlastOthers.T16 : Bool × List (List Nat × List Nat) := (true, [([], []), ([], []), ([0, 1], [0, 1]), ([2], [2]), ([], []), ([], []), ([4, 5], [4, 5]), ([6], [6]), ([], []), ([], []), ([8, 3, 0, 1, 2, 3, 8, 9], [3, 8]), ([9, 7, 10, 0, 1, 2, 3, 4, 5, 6, 7, 8, 9, 10], [7, 9])])
def skiarealaw51_BlastOthers.B16 : List Nat := [0, 0, 3, 7, 0, 0, 48, 112, 0, 0, 783, 2047]
theorem skiarealaw51_BlastOthers.tab16 : rtab .any (opsOf Try.f10 16) = skiarealaw51_BlastOthers.T16 := by kernel_rfl
theorem skiarealaw51_BlastOthers.bits16 : waitsOk skiarealaw51_BlastOthers.T16.2 skiarealaw51_BlastOthers.B16 = true := by kernel_rfl
def skiarealaw51_BlastOthers.T17 : Bool × List (List Nat × List Nat) := (true, [([], []), ([0], [0]), ([], []), ([], []), ([2, 3], [2, 3]), ([4], [4]), ([5], [5]), ([1, 6], [1, 6]), ([7], [7]), ([8], [8]), ([8], [8]), ([9, 10, 8], [8, 9, 10]), ([8, 11], [8, 11]), ([12, 8], [12]), ([13], [13]), ([14, 13], [13, 14]), ([13], [13]), ([16, 13], [13, 16]), ([15, 17, 13], [13, 15, 17]), ([13, 18], [13, 18]), ([19, 13], [19]), ([20], [20]), ([21, 20], [20, 21]), ([20], [20]), ([23, 20], [20, 23]), ([22, 24, 20], [20, 22, 24]), ([20, 25], [20, 25]), ([26, 20], [26]), ([27], [27]), ([28, 27], [27, 28]), ([27], [27]), ([30, 27], [27, 30]), ([29, 31, 27], [27, 29, 31]), ([27, 32], [27, 32]), ([33, 27], [33]), ([34], [34]), ([35, 34], [34, 35]), ([34], [34]), ([37, 34], [34, 37]), ([36, 38, 34], [34, 36, 38]), ([34, 39], [34, 39])])
def skiarealaw51_BlastOthers.B17 : List Nat := [0, 1, 0, 0, 12, 28, 60, 127, 255, 511, 511, 2047, 4095, 8191, 16383, 32767, 16383, 81919, 262143, 524287, 1048575, 2097151, 4194303, 2097151, 10485759, 33554431, 67108863, 134217727, 268435455, 536870911, 268435455, 1342177279, 4294967295, 8589934591, 17179869183, 34359738367, 68719476735, 34359738367, 171798691839, 549755813887, 1099511627775]
theorem skiarealaw51_BlastOthers.tab17 : rtab .any (opsOf Try.f10 17) = skiarealaw51_BlastOthers.T17 := by kernel_rfl
theorem skiarealaw51_BlastOthers.bits17 : waitsOk skiarealaw51_BlastOthers.T17.2 skiarealaw51_BlastOthers.B17 = true := by kernel_rfl
theorem skiarealaw51_BlastOthers.absL {P : Program} {ops : Array Oper} {Q : Exit → Act → World → Prop} {md : Region.Mode} {S : World → Prop} {ds : List Nat} {fuel : Nat} {l : Array Bool} {a : Act} {W : World} (h : ∀ w1, w1 = W → wpAnyLast P md ops Q S ds fuel l a w1) : wpAnyLast P md ops Q S ds fuel l a W := h W rfl
theorem skiarealaw51_BlastOthers.away30 {W : World} {ok : Nat → Prop} {e base n c g : Nat} {ad : Addr} {xs : List S30} (h : Kd.V k30 e W base ok (.slice (some ad) n c) xs) (hok : ∀ k, ok k → k ≠ g) (i : Int) (h0 : 0 ≤ i) (h1 : i < n) : ad.block ≠ g := by
  intro hb
  have hF := Kd.V_F h
  have hC := hF { W with heap := W.heap.setIfInBounds g (.cells #[] 0 (0, 0)) } (fun k hk hlt => by
    have hne : g ≠ k := fun e => hok k hk e.symm
    simp [Array.getElem?_setIfInBounds_ne hne])
  obtain ⟨ad', he, hx, _⟩ := at_T30 hC i h0 h1
  obtain rfl : ad = ad' := Option.some.inj he
  obtain ⟨ad2, he2, hy, _⟩ := at_T30 (Kd.F_now hF) i h0 h1
  obtain rfl : ad = ad2 := Option.some.inj he2
  have hlt := World.block_lt_of_cell? W _ hy
  rw [add_block, hb] at hlt
  unfold World.cell? at hx
  rw [add_block, hb] at hx
  simp [Array.getElem?_setIfInBounds_self_of_lt hlt] at hx
def skiarealaw51_BlastOthers.b0 : Array Bool := #[true, false, false, false, false, false, false, false, false, false, false, false, false, false, false, false, false, false, false, false, false, false, false, false, false, false, false, false, false, false, false, false, false, false, false, false, false, false, false, false, false]
def skiarealaw51_BlastOthers.b1 : Array Bool := #[true, false, true, false, false, false, false, false, false, false, false, false, false, false, false, false, false, false, false, false, false, false, false, false, false, false, false, false, false, false, false, false, false, false, false, false, false, false, false, false, false]
def skiarealaw51_BlastOthers.b2 : Array Bool := #[true, false, true, true, false, false, false, false, false, false, false, false, false, false, false, false, false, false, false, false, false, false, false, false, false, false, false, false, false, false, false, false, false, false, false, false, false, false, false, false, false]
def skiarealaw51_BlastOthers.b3 : Array Bool := #[true, false, true, true, true, false, false, false, false, false, false, false, false, false, false, false, false, false, false, false, false, false, false, false, false, false, false, false, false, false, false, false, false, false, false, false, false, false, false, false, false]
def skiarealaw51_BlastOthers.b4 : Array Bool := #[true, false, true, true, true, true, false, false, false, false, false, false, false, false, false, false, false, false, false, false, false, false, false, false, false, false, false, false, false, false, false, false, false, false, false, false, false, false, false, false, false]
def skiarealaw51_BlastOthers.b5 : Array Bool := #[true, true, true, true, true, true, false, false, false, false, false, false, false, false, false, false, false, false, false, false, false, false, false, false, false, false, false, false, false, false, false, false, false, false, false, false, false, false, false, false, false]
def skiarealaw51_BlastOthers.b6 : Array Bool := #[true, true, true, true, true, true, true, false, false, false, false, false, false, false, false, false, false, false, false, false, false, false, false, false, false, false, false, false, false, false, false, false, false, false, false, false, false, false, false, false, false]
def skiarealaw51_BlastOthers.b7 : Array Bool := #[true, true, true, true, true, true, true, true, false, false, false, false, false, false, false, false, false, false, false, false, false, false, false, false, false, false, false, false, false, false, false, false, false, false, false, false, false, false, false, false, false]
def skiarealaw51_BlastOthers.b8 : Array Bool := #[true, true, true, true, true, true, true, true, true, false, false, false, false, false, false, false, false, false, false, false, false, false, false, false, false, false, false, false, false, false, false, false, false, false, false, false, false, false, false, false, false]
def skiarealaw51_BlastOthers.b9 : Array Bool := #[true, true, true, true, true, true, true, true, true, true, false, false, false, false, false, false, false, false, false, false, false, false, false, false, false, false, false, false, false, false, false, false, false, false, false, false, false, false, false, false, false]
def skiarealaw51_BlastOthers.b10 : Array Bool := #[true, true, true, true, true, true, true, true, true, true, true, false, false, false, false, false, false, false, false, false, false, false, false, false, false, false, false, false, false, false, false, false, false, false, false, false, false, false, false, false, false]
def skiarealaw51_BlastOthers.b11 : Array Bool := #[true, true, true, true, true, true, true, true, true, true, true, true, false, false, false, false, false, false, false, false, false, false, false, false, false, false, false, false, false, false, false, false, false, false, false, false, false, false, false, false, false]
def skiarealaw51_BlastOthers.b12 : Array Bool := #[true, true, true, true, true, true, true, true, true, true, true, true, true, false, false, false, false, false, false, false, false, false, false, false, false, false, false, false, false, false, false, false, false, false, false, false, false, false, false, false, false]
def skiarealaw51_BlastOthers.b13 : Array Bool := #[true, true, true, true, true, true, true, true, true, true, true, true, true, true, false, false, false, false, false, false, false, false, false, false, false, false, false, false, false, false, false, false, false, false, false, false, false, false, false, false, false]
def skiarealaw51_BlastOthers.b14 : Array Bool := #[true, true, true, true, true, true, true, true, true, true, true, true, true, true, true, false, false, false, false, false, false, false, false, false, false, false, false, false, false, false, false, false, false, false, false, false, false, false, false, false, false]
def skiarealaw51_BlastOthers.b15 : Array Bool := #[true, true, true, true, true, true, true, true, true, true, true, true, true, true, true, false, true, false, false, false, false, false, false, false, false, false, false, false, false, false, false, false, false, false, false, false, false, false, false, false, false]
def skiarealaw51_BlastOthers.b16 : Array Bool := #[true, true, true, true, true, true, true, true, true, true, true, true, true, true, true, true, true, false, false, false, false, false, false, false, false, false, false, false, false, false, false, false, false, false, false, false, false, false, false, false, false]
def skiarealaw51_BlastOthers.b17 : Array Bool := #[true, true, true, true, true, true, true, true, true, true, true, true, true, true, true, true, true, true, false, false, false, false, false, false, false, false, false, false, false, false, false, false, false, false, false, false, false, false, false, false, false]
def skiarealaw51_BlastOthers.b18 : Array Bool := #[true, true, true, true, true, true, true, true, true, true, true, true, true, true, true, true, true, true, true, false, false, false, false, false, false, false, false, false, false, false, false, false, false, false, false, false, false, false, false, false, false]
def skiarealaw51_BlastOthers.b19 : Array Bool := #[true, true, true, true, true, true, true, true, true, true, true, true, true, true, true, true, true, true, true, true, false, false, false, false, false, false, false, false, false, false, false, false, false, false, false, false, false, false, false, false, false]
def skiarealaw51_BlastOthers.b20 : Array Bool := #[true, true, true, true, true, true, true, true, true, true, true, true, true, true, true, true, true, true, true, true, true, false, false, false, false, false, false, false, false, false, false, false, false, false, false, false, false, false, false, false, false]
def skiarealaw51_BlastOthers.b21 : Array Bool := #[true, true, true, true, true, true, true, true, true, true, true, true, true, true, true, true, true, true, true, true, true, true, false, false, false, false, false, false, false, false, false, false, false, false, false, false, false, false, false, false, false]
def skiarealaw51_BlastOthers.b22 : Array Bool := #[true, true, true, true, true, true, true, true, true, true, true, true, true, true, true, true, true, true, true, true, true, true, false, true, false, false, false, false, false, false, false, false, false, false, false, false, false, false, false, false, false]
def skiarealaw51_BlastOthers.b23 : Array Bool := #[true, true, true, true, true, true, true, true, true, true, true, true, true, true, true, true, true, true, true, true, true, true, true, true, false, false, false, false, false, false, false, false, false, false, false, false, false, false, false, false, false]
def skiarealaw51_BlastOthers.b24 : Array Bool := #[true, true, true, true, true, true, true, true, true, true, true, true, true, true, true, true, true, true, true, true, true, true, true, true, true, false, false, false, false, false, false, false, false, false, false, false, false, false, false, false, false]
def skiarealaw51_BlastOthers.b25 : Array Bool := #[true, true, true, true, true, true, true, true, true, true, true, true, true, true, true, true, true, true, true, true, true, true, true, true, true, true, false, false, false, false, false, false, false, false, false, false, false, false, false, false, false]
def skiarealaw51_BlastOthers.b26 : Array Bool := #[true, true, true, true, true, true, true, true, true, true, true, true, true, true, true, true, true, true, true, true, true, true, true, true, true, true, true, false, false, false, false, false, false, false, false, false, false, false, false, false, false]
def skiarealaw51_BlastOthers.b27 : Array Bool := #[true, true, true, true, true, true, true, true, true, true, true, true, true, true, true, true, true, true, true, true, true, true, true, true, true, true, true, true, false, false, false, false, false, false, false, false, false, false, false, false, false]
def skiarealaw51_BlastOthers.b28 : Array Bool := #[true, true, true, true, true, true, true, true, true, true, true, true, true, true, true, true, true, true, true, true, true, true, true, true, true, true, true, true, true, false, false, false, false, false, false, false, false, false, false, false, false]
def skiarealaw51_BlastOthers.b29 : Array Bool := #[true, true, true, true, true, true, true, true, true, true, true, true, true, true, true, true, true, true, true, true, true, true, true, true, true, true, true, true, true, false, true, false, false, false, false, false, false, false, false, false, false]
def skiarealaw51_BlastOthers.b30 : Array Bool := #[true, true, true, true, true, true, true, true, true, true, true, true, true, true, true, true, true, true, true, true, true, true, true, true, true, true, true, true, true, true, true, false, false, false, false, false, false, false, false, false, false]
def skiarealaw51_BlastOthers.b31 : Array Bool := #[true, true, true, true, true, true, true, true, true, true, true, true, true, true, true, true, true, true, true, true, true, true, true, true, true, true, true, true, true, true, true, true, false, false, false, false, false, false, false, false, false]
def skiarealaw51_BlastOthers.b32 : Array Bool := #[true, true, true, true, true, true, true, true, true, true, true, true, true, true, true, true, true, true, true, true, true, true, true, true, true, true, true, true, true, true, true, true, true, false, false, false, false, false, false, false, false]
def skiarealaw51_BlastOthers.b33 : Array Bool := #[true, true, true, true, true, true, true, true, true, true, true, true, true, true, true, true, true, true, true, true, true, true, true, true, true, true, true, true, true, true, true, true, true, true, false, false, false, false, false, false, false]
def skiarealaw51_BlastOthers.b34 : Array Bool := #[true, true, true, true, true, true, true, true, true, true, true, true, true, true, true, true, true, true, true, true, true, true, true, true, true, true, true, true, true, true, true, true, true, true, true, false, false, false, false, false, false]
def skiarealaw51_BlastOthers.b35 : Array Bool := #[true, true, true, true, true, true, true, true, true, true, true, true, true, true, true, true, true, true, true, true, true, true, true, true, true, true, true, true, true, true, true, true, true, true, true, true, false, false, false, false, false]
def skiarealaw51_BlastOthers.b36 : Array Bool := #[true, true, true, true, true, true, true, true, true, true, true, true, true, true, true, true, true, true, true, true, true, true, true, true, true, true, true, true, true, true, true, true, true, true, true, true, false, true, false, false, false]
def skiarealaw51_BlastOthers.b37 : Array Bool := #[true, true, true, true, true, true, true, true, true, true, true, true, true, true, true, true, true, true, true, true, true, true, true, true, true, true, true, true, true, true, true, true, true, true, true, true, true, true, false, false, false]
def skiarealaw51_BlastOthers.b38 : Array Bool := #[true, true, true, true, true, true, true, true, true, true, true, true, true, true, true, true, true, true, true, true, true, true, true, true, true, true, true, true, true, true, true, true, true, true, true, true, true, true, true, false, false]
def skiarealaw51_BlastOthers.b39 : Array Bool := #[true, true, true, true, true, true, true, true, true, true, true, true, true, true, true, true, true, true, true, true, true, true, true, true, true, true, true, true, true, true, true, true, true, true, true, true, true, true, true, true, false]
def skiarealaw51_BlastOthers.b40 : Array Bool := #[true, true, true, true, true, true, true, true, true, true, true, true, true, true, true, true, true, true, true, true, true, true, true, true, true, true, true, true, true, true, true, true, true, true, true, true, true, true, true, true, true]
end Go.Proofs.Ytjlfaoaoinhebaa.A
